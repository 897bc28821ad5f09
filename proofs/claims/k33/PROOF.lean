import PyProof.Rows.All
import Wide.All
import OpenK.AllK
import Wide.FinOn
import HandS.ForMost
import HandS.Exc
import HandS.ExcOwn
import HandS.CallSlots
import HandS.Wide
import HandS.HeadHook2
import KE.DataEq
import HandS.Deep
import HandS.IsInst
import HandS.WordsExc
import HandS.Head2
import HandS.HeadEnd
import HandS.ClsMeth
import HandS.ExcIs
import HandS.TupLe
import HandS.More
import HandS.Text
import KE.KxText
import HandS.SortInts
import HandS.Zip
import PyProof.ZipIter
import KE.SortKeyed
import KE.SortData
import HandS.SortKw
import HandS.Keys
import HandS.Iter
import KE.KEqDict
import HandS.DictEq
import HandS.SetKeys
import HandS.TryOnly
import HandS.TryMany
import PySem.Challenge.RW_twotimes_k33_asks_refused
set_option Elab.async false
set_option linter.all false
set_option maxRecDepth 100000
set_option maxHeartbeats 4000000
namespace Tw
open PySem PySem.Spec PyProof.Rows L2

/-! ### values: immutable data by value, things that change by handle -/
inductive D where
  | non | bl (b : Bool) | int (i : Int) | str (s : Str) | ty (n : String) | gl (a : Addr) | gb (x : Str)
  | tup (l : List D) | lst (l : List D) | sq (l : List D) | dct (ks : List Key) (l : List D) | hnd (n : Nat)
inductive O where
  | lst (l : List D) | dct (ks : List Key) (l : List D) | ins (C : Str) (fs : List (Str × D))
  /-- a dict that is being walked; any other thing, with what data its values stand for -/
  | lck (od : Obj) (kvs : List (Key × V)) (l : List D) | opq (o : HO) (vs : List V) (ds : List D)
abbrev Wd := List O

section
variable (K : PySem.W.Frag) (B : Hp) (φ : List Addr)
mutual
def Rep : D → V → Prop
  | .non, v => v = .non
  | .bl b, v => v = .bl b
  | .int i, v => v = .int i
  | .str s, v => v = .str s
  | .ty n, v => v = .ty n
  | .gl a, v => v = .ref a
  | .gb x, v => v = .ref (He.ga K x)
  | .tup l, v => ∃ p xs, v = .ref p ∧ SqT K B p xs ∧ Reps l xs
  | .lst l, v => ∃ p xs, v = .ref p ∧ B p = some (.lst xs) ∧ Reps l xs
  | .sq l, v => ∃ p xs, v = .ref p ∧ SqL K B p xs ∧ Reps l xs
  | .dct ks l, v => ∃ p kvs, v = .ref p ∧ Rd B p (.dK kvs) ∧ kvs.map (·.1) = ks ∧ Reps l (kvs.map (·.2))
  | .hnd n, v => ∃ a, φ[n]? = some a ∧ v = .ref a
def Reps : List D → List V → Prop
  | [], xs => xs = []
  | d :: l, xs => ∃ x r, xs = x :: r ∧ Rep d x ∧ Reps l r
end
def ORep (H : Hp) (a : Addr) : O → Prop
  | .lst l => ∃ xs, H a = some (.lst xs) ∧ Reps K B φ l xs
  | .dct ks l => ∃ kvs, H a = some (.dK kvs) ∧ kvs.map (·.1) = ks ∧ Reps K B φ l (kvs.map (·.2))
  | .lck od kvs l => H a = some (.frz od (.dK kvs)) ∧ Reps K B φ l (kvs.map (·.2))
  | .opq o vs ds => H a = some o ∧ Reps K B φ ds vs
  | .ins C fs => ∃ dx fvs, H a = some (.ins (He.ga K C) dx fvs) ∧ fvs.map (·.1) = fs.map (·.1) ∧ Reps K B φ (fs.map (·.2)) (fvs.map (·.2))
end
/-- what is frozen stands in the heap (a dict may be locked for a while) -/
def Sub (B H : Hp) : Prop := ∀ a u, B a = some u → H a = some u ∨ ∃ kvs o, u = .dK kvs ∧ H a = some (.frz o u)
structure RelW (K : PySem.W.Frag) (B : Hp) (φ : List Addr) (W : Wd) (H : Hp) : Prop where
  sub : Sub B H
  len : φ.length = W.length
  obj : ∀ (n : Nat) a o, φ[n]? = some a → W[n]? = some o → ORep K B φ H a o
  nd : φ.Nodup
  off : ∀ a ∈ φ, B a = none
def Ext (B : Hp) (φ : List Addr) (B' : Hp) (φ' : List Addr) : Prop := (∀ a o, B a = some o → B' a = some o) ∧ ∃ l, φ' = φ ++ l
theorem Ext.refl (B : Hp) (φ : List Addr) : Ext B φ B φ := ⟨fun _ _ h => h, [], by simp⟩
theorem Ext.trans {B B1 B2 : Hp} {φ φ1 φ2 : List Addr} (a : Ext B φ B1 φ1) (b : Ext B1 φ1 B2 φ2) : Ext B φ B2 φ2 := by
  obtain ⟨a1, l, rfl⟩ := a
  obtain ⟨b1, m, rfl⟩ := b
  exact ⟨fun x o h => b1 x o (a1 x o h), l ++ m, by simp⟩
theorem Ext.hnd {B B1 : Hp} {φ φ1 : List Addr} (a : Ext B φ B1 φ1) {n : Nat} {x : Addr} (h : φ[n]? = some x) : φ1[n]? = some x := by
  obtain ⟨_, l, rfl⟩ := a
  rw [List.getElem?_append_left (List.getElem?_eq_some_iff.mp h).1]
  exact h
theorem rd_mono {B B1 : Hp} (e : ∀ a o, B a = some o → B1 a = some o) {a : Addr} {u : HO} (h : Rd B a u) : Rd B1 a u := by
  rcases h with h | ⟨o, h⟩
  · exact .inl (e _ _ h)
  · exact .inr ⟨o, e _ _ h⟩
theorem sqT_mono {K : PySem.W.Frag} {B B1 : Hp} (e : ∀ a o, B a = some o → B1 a = some o) {a : Addr} {xs : List V} (h : SqT K B a xs) : SqT K B1 a xs := by
  rcases h with h | h
  · exact .inl (rd_mono e h)
  · exact .inr h
theorem sqL_mono {K : PySem.W.Frag} {B B1 : Hp} (e : ∀ a o, B a = some o → B1 a = some o) {a : Addr} {xs : List V} (h : SqL K B a xs) : SqL K B1 a xs := by
  rcases h with h | h
  · exact .inl (rd_mono e h)
  · exact .inr h
section
variable {K : PySem.W.Frag} {B B1 : Hp} {φ φ1 : List Addr}
mutual
theorem Rep.mono (e : Ext B φ B1 φ1) : ∀ (d : D) (v : V), Rep K B φ d v → Rep K B1 φ1 d v
  | .non, v, h => by simpa only [Rep] using h
  | .bl b, v, h => by simpa only [Rep] using h
  | .int i, v, h => by simpa only [Rep] using h
  | .str s, v, h => by simpa only [Rep] using h
  | .ty n, v, h => by simpa only [Rep] using h
  | .gl a, v, h => by simpa only [Rep] using h
  | .gb a, v, h => by simpa only [Rep] using h
  | .tup l, v, h => by
    simp only [Rep] at h ⊢
    obtain ⟨p, xs, h1, h2, h3⟩ := h
    exact ⟨p, xs, h1, sqT_mono e.1 h2, Reps.mono e l xs h3⟩
  | .lst l, v, h => by
    simp only [Rep] at h ⊢
    obtain ⟨p, xs, h1, h2, h3⟩ := h
    exact ⟨p, xs, h1, e.1 _ _ h2, Reps.mono e l xs h3⟩
  | .sq l, v, h => by
    simp only [Rep] at h ⊢
    obtain ⟨p, xs, h1, h2, h3⟩ := h
    exact ⟨p, xs, h1, sqL_mono e.1 h2, Reps.mono e l xs h3⟩
  | .dct ks l, v, h => by
    simp only [Rep] at h ⊢
    obtain ⟨p, kvs, h1, h2, h3, h4⟩ := h
    exact ⟨p, kvs, h1, rd_mono e.1 h2, h3, Reps.mono e l _ h4⟩
  | .hnd n, v, h => by
    simp only [Rep] at h ⊢
    obtain ⟨a, h1, h2⟩ := h
    exact ⟨a, e.hnd h1, h2⟩
theorem Reps.mono (e : Ext B φ B1 φ1) : ∀ (l : List D) (xs : List V), Reps K B φ l xs → Reps K B1 φ1 l xs
  | [], xs, h => by simpa only [Reps] using h
  | d :: l, xs, h => by
    simp only [Reps] at h ⊢
    obtain ⟨x, r, h1, h2, h3⟩ := h
    exact ⟨x, r, h1, Rep.mono e d x h2, Reps.mono e l r h3⟩
end
theorem Reps.nil : Reps K B φ [] [] := by simp [Reps]
theorem Reps.cons {d : D} {l : List D} {x : V} {r : List V} (h : Rep K B φ d x) (t : Reps K B φ l r) : Reps K B φ (d :: l) (x :: r) := by
  simp only [Reps]
  exact ⟨x, r, rfl, h, t⟩
theorem Reps.nil_inv {xs : List V} (h : Reps K B φ [] xs) : xs = [] := by simpa only [Reps] using h
theorem Reps.cons_inv {d : D} {l : List D} {xs : List V} (h : Reps K B φ (d :: l) xs) : ∃ x r, xs = x :: r ∧ Rep K B φ d x ∧ Reps K B φ l r := by simpa only [Reps] using h
theorem Reps.length : ∀ {l : List D} {xs : List V}, Reps K B φ l xs → xs.length = l.length
  | [], xs, h => by rw [h.nil_inv]; rfl
  | d :: l, xs, h => by
    obtain ⟨x, r, rfl, _, t⟩ := h.cons_inv
    simp [t.length]
theorem Reps.get : ∀ {l : List D} {xs : List V} {i : Nat} {d : D}, Reps K B φ l xs → l[i]? = some d → ∃ x, xs[i]? = some x ∧ Rep K B φ d x
  | [], _, _, _, _, e => by simp at e
  | d :: l, xs, 0, d', h, e => by
    obtain ⟨x, r, rfl, h1, t⟩ := h.cons_inv
    simp at e; subst e
    exact ⟨x, rfl, h1⟩
  | d :: l, xs, i + 1, d', h, e => by
    obtain ⟨x, r, rfl, h1, t⟩ := h.cons_inv
    obtain ⟨y, a, b⟩ := t.get (i := i) (d := d') (by simpa using e)
    exact ⟨y, by simpa using a, b⟩
theorem Reps.getV : ∀ {l : List D} {xs : List V} {i : Nat} {x : V}, Reps K B φ l xs → xs[i]? = some x → ∃ d, l[i]? = some d ∧ Rep K B φ d x := fun {l xs i x} h e => by
  have hi : i < l.length := by rw [← h.length]; exact (List.getElem?_eq_some_iff.mp e).1
  obtain ⟨y, a, b⟩ := h.get (List.getElem?_eq_getElem hi)
  rw [e] at a; cases a
  exact ⟨_, List.getElem?_eq_getElem hi, b⟩
theorem Reps.append : ∀ {l m : List D} {xs ys : List V}, Reps K B φ l xs → Reps K B φ m ys → Reps K B φ (l ++ m) (xs ++ ys)
  | [], _, _, _, h, g => by rw [h.nil_inv]; exact g
  | d :: l, m, xs, ys, h, g => by
    obtain ⟨x, r, rfl, h1, t⟩ := h.cons_inv
    exact Reps.cons h1 (t.append g)
theorem Reps.take : ∀ {l : List D} {xs : List V} (n : Nat), Reps K B φ l xs → Reps K B φ (l.take n) (xs.take n)
  | l, xs, 0, h => by simpa using Reps.nil
  | [], xs, n + 1, h => by rw [h.nil_inv]; exact Reps.nil
  | d :: l, xs, n + 1, h => by
    obtain ⟨x, r, rfl, h1, t⟩ := h.cons_inv
    exact Reps.cons h1 (t.take n)
theorem Reps.drop : ∀ {l : List D} {xs : List V} (n : Nat), Reps K B φ l xs → Reps K B φ (l.drop n) (xs.drop n)
  | l, xs, 0, h => h
  | [], xs, n + 1, h => by rw [h.nil_inv]; exact Reps.nil
  | d :: l, xs, n + 1, h => by
    obtain ⟨x, r, rfl, h1, t⟩ := h.cons_inv
    exact t.drop n
theorem Reps.set : ∀ {l : List D} {xs : List V} {i : Nat} {d : D} {x : V}, Reps K B φ l xs → Rep K B φ d x → Reps K B φ (l.set i d) (xs.set i x)
  | [], xs, _, _, _, h, _ => by rw [h.nil_inv]; exact Reps.nil
  | d :: l, xs, 0, d', x', h, g => by
    obtain ⟨x, r, rfl, h1, t⟩ := h.cons_inv
    exact Reps.cons g t
  | d :: l, xs, i + 1, d', x', h, g => by
    obtain ⟨x, r, rfl, h1, t⟩ := h.cons_inv
    exact Reps.cons h1 (t.set g)
theorem Reps.reverse : ∀ {l : List D} {xs : List V}, Reps K B φ l xs → Reps K B φ l.reverse xs.reverse
  | [], xs, h => by rw [h.nil_inv]; exact Reps.nil
  | d :: l, xs, h => by
    obtain ⟨x, r, rfl, h1, t⟩ := h.cons_inv
    rw [List.reverse_cons, List.reverse_cons]
    exact t.reverse.append (Reps.cons h1 Reps.nil)
/-- every list of represented values is one of data -/
theorem Reps.of_all : ∀ {xs : List V}, (∀ x ∈ xs, ∃ d, Rep K B φ d x) → ∃ l, Reps K B φ l xs
  | [], _ => ⟨[], Reps.nil⟩
  | x :: xs, h => by
    obtain ⟨d, hd⟩ := h x List.mem_cons_self
    obtain ⟨l, hl⟩ := Reps.of_all fun y hy => h y (List.mem_cons_of_mem _ hy)
    exact ⟨d :: l, Reps.cons hd hl⟩
end
theorem ORep.mono {K : PySem.W.Frag} {B B1 H : Hp} {φ φ1 : List Addr} {a : Addr} (e : Ext B φ B1 φ1) : ∀ {o : O}, ORep K B φ H a o → ORep K B1 φ1 H a o
  | .lst l, ⟨xs, h, r⟩ => ⟨xs, h, r.mono e _ _⟩
  | .dct ks l, ⟨kvs, h, k, r⟩ => ⟨kvs, h, k, r.mono e _ _⟩
  | .lck od kvs l, ⟨h, r⟩ => ⟨h, r.mono e _ _⟩
  | .opq o vs ds, ⟨h, r⟩ => ⟨h, r.mono e _ _⟩
  | .ins C fs, ⟨dx, fvs, h, k, r⟩ => ⟨dx, fvs, h, k, r.mono e _ _⟩
theorem ORep.heap {K : PySem.W.Frag} {B H H1 : Hp} {φ : List Addr} {a : Addr} (e : H1 a = H a) : ∀ {o : O}, ORep K B φ H a o → ORep K B φ H1 a o
  | .lst l, ⟨xs, h, r⟩ => ⟨xs, e.trans h, r⟩
  | .dct ks l, ⟨kvs, h, k, r⟩ => ⟨kvs, e.trans h, k, r⟩
  | .lck od kvs l, ⟨h, r⟩ => ⟨e.trans h, r⟩
  | .opq o vs ds, ⟨h, r⟩ => ⟨e.trans h, r⟩
  | .ins C fs, ⟨dx, fvs, h, k, r⟩ => ⟨dx, fvs, e.trans h, k, r⟩
theorem ORep.there {K : PySem.W.Frag} {B H : Hp} {φ : List Addr} {a : Addr} : ∀ {o : O}, ORep K B φ H a o → H a ≠ none
  | .lst l, ⟨xs, h, r⟩ => by rw [h]; simp
  | .dct ks l, ⟨kvs, h, k, r⟩ => by rw [h]; simp
  | .lck od kvs l, ⟨h, r⟩ => by rw [h]; simp
  | .opq o vs ds, ⟨h, r⟩ => by rw [h]; simp
  | .ins C fs, ⟨dx, fvs, h, k, r⟩ => by rw [h]; simp
section
variable {K : PySem.W.Frag} {B H : Hp} {φ : List Addr} {W : Wd}
theorem RelW.live (R : RelW K B φ W H) {a : Addr} (h : a ∈ φ) : H a ≠ none := by
  obtain ⟨n, hn⟩ := List.mem_iff_getElem?.mp h
  have hl : n < W.length := by rw [← R.len]; exact (List.getElem?_eq_some_iff.mp hn).1
  exact (R.obj n a _ hn (List.getElem?_eq_getElem hl)).there
theorem RelW.fresh (R : RelW K B φ W H) {p : Addr} (h : H p = none) : p ∉ φ ∧ B p = none := by
  refine ⟨fun z => R.live z h, ?_⟩
  cases e : B p with
  | none => rfl
  | some u =>
    rcases R.sub p u e with q | ⟨_, _, _, q⟩ <;> (rw [h] at q; cases q)
theorem Sub.new {B H : Hp} (s : Sub B H) {p : Addr} {o : HO} (h : H p = none) : Sub B (upd H p o) := fun a u e => by
  have hb : B p = none := by
    cases e : B p with
    | none => rfl
    | some u =>
      rcases s p u e with q | ⟨_, _, _, q⟩ <;> (rw [h] at q; cases q)
  rw [upd_ne (ne_of_none e hb)]
  exact s a u e
theorem Sub.frz {B H : Hp} (s : Sub B H) {p : Addr} {o : HO} (h : H p = none) : Sub (upd B p o) (upd H p o) := fun a u e => by
  by_cases hp : a = p
  · subst hp
    rw [upd_same] at e ⊢
    exact .inl e
  · rw [upd_ne hp] at e ⊢
    exact s a u e
theorem ne_mem {l : List Addr} {a p : Addr} (h : a ∈ l) (f : p ∉ l) : a ≠ p := fun z => by subst z; exact f h
/-- a new object that is not followed -/
theorem RelW.new (R : RelW K B φ W H) {p : Addr} {o : HO} (h : H p = none) : RelW K B φ W (upd H p o) := by
  obtain ⟨f1, f2⟩ := R.fresh h
  refine ⟨R.sub.new h, R.len, fun n a u ha hu => (R.obj n a u ha hu).heap (upd_ne (ne_mem (List.mem_of_getElem? ha) f1)), R.nd, R.off⟩
theorem ext_frz {p : Addr} {o : HO} (h : B p = none) : Ext B φ (upd B p o) φ := ⟨fun a u e => by rw [upd_ne (ne_of_none e h)]; exact e, [], by simp⟩
/-- a new frozen object -/
theorem RelW.frz (R : RelW K B φ W H) {p : Addr} {o : HO} (h : H p = none) : RelW K (upd B p o) φ W (upd H p o) ∧ Ext B φ (upd B p o) φ := by
  obtain ⟨f1, f2⟩ := R.fresh h
  have e := ext_frz (φ := φ) (o := o) f2
  refine ⟨⟨R.sub.frz h, R.len, fun n a u ha hu => ((R.obj n a u ha hu).mono e).heap (upd_ne (ne_mem (List.mem_of_getElem? ha) f1)), R.nd, fun a ha => ?_⟩, e⟩
  rw [upd_ne (ne_mem ha f1)]
  exact R.off a ha
theorem ext_add (l : List Addr) : Ext B φ B (φ ++ l) := ⟨fun _ _ h => h, l, rfl⟩
/-- a new object with a handle -/
theorem RelW.add (R : RelW K B φ W H) {p : Addr} {ho : HO} {o : O} (h : H p = none) (ro : ORep K B φ (upd H p ho) p o) : RelW K B (φ ++ [p]) (W ++ [o]) (upd H p ho) ∧ Ext B φ B (φ ++ [p]) := by
  obtain ⟨f1, f2⟩ := R.fresh h
  have e := ext_add (B := B) (φ := φ) [p]
  refine ⟨⟨R.sub.new h, by simp [R.len], fun n a u ha hu => ?_, ?_, fun a ha => ?_⟩, e⟩
  · by_cases hn : n < φ.length
    · rw [List.getElem?_append_left hn] at ha
      rw [List.getElem?_append_left (by rw [← R.len]; exact hn)] at hu
      exact ((R.obj n a u ha hu).mono e).heap (upd_ne (ne_mem (List.mem_of_getElem? ha) f1))
    · have h1 : n < (φ ++ [p]).length := (List.getElem?_eq_some_iff.mp ha).1
      have h2 : n = φ.length := by simp at h1; omega
      subst h2
      rw [List.getElem?_append_right (Nat.le_refl _)] at ha
      rw [R.len, List.getElem?_append_right (Nat.le_refl _)] at hu
      simp at ha hu
      subst ha; subst hu
      exact ro.mono e
  · rw [List.nodup_append]
    refine ⟨R.nd, by simp, fun a ha b hb => ?_⟩
    simp at hb; subst hb
    exact ne_mem ha f1
  · rcases List.mem_append.mp ha with q | q
    · exact R.off a q
    · simp at q; subst q; exact f2
/-- an object behind a handle is written -/
theorem RelW.put (R : RelW K B φ W H) {n : Nat} {p : Addr} {ho : HO} {o : O} (hp : φ[n]? = some p) (ro : ORep K B φ (upd H p ho) p o) : RelW K B φ (W.set n o) (upd H p ho) := by
  have hm := List.mem_of_getElem? hp
  have hb := R.off p hm
  refine ⟨fun a u e => ?_, by simpa using R.len, fun m a u ha hu => ?_, R.nd, R.off⟩
  · rw [upd_ne (ne_of_none e hb)]
    exact R.sub a u e
  · by_cases hmn : m = n
    · subst hmn
      rw [hp] at ha; cases ha
      rw [List.getElem?_set_self (by rw [← R.len]; exact (List.getElem?_eq_some_iff.mp hp).1)] at hu
      cases hu
      exact ro
    · rw [List.getElem?_set_ne (Ne.symm hmn)] at hu
      have hne : a ≠ p := fun z => by
        subst z
        obtain ⟨h1, e1⟩ := List.getElem?_eq_some_iff.mp ha
        obtain ⟨h2, e2⟩ := List.getElem?_eq_some_iff.mp hp
        exact hmn ((List.getElem_inj R.nd).mp (e1.trans e2.symm))
      exact (R.obj m a u ha hu).heap (upd_ne hne)
theorem RelW.get (R : RelW K B φ W H) {n : Nat} {o : O} (h : W[n]? = some o) : ∃ a, φ[n]? = some a ∧ ORep K B φ H a o := by
  have hn : n < φ.length := by rw [R.len]; exact (List.getElem?_eq_some_iff.mp h).1
  exact ⟨_, List.getElem?_eq_getElem hn, R.obj n _ o (List.getElem?_eq_getElem hn) h⟩
theorem Sub.rd (s : Sub B H) {a : Addr} {u : HO} (h : Rd B a u) : Rd H a u := by
  rcases h with h | ⟨o, h⟩
  · rcases s a u h with q | ⟨kvs, o, rfl, q⟩
    · exact .inl q
    · exact .inr ⟨o, q⟩
  · rcases s a _ h with q | ⟨kvs, o', e, q⟩
    · exact .inr ⟨o, q⟩
    · cases e
theorem RelW.lst (R : RelW K B φ W H) {a : Addr} {xs : List V} (h : B a = some (.lst xs)) : H a = some (.lst xs) := by
  rcases R.sub a _ h with q | ⟨kvs, o, e, q⟩
  · exact q
  · cases e
theorem RelW.sqT (R : RelW K B φ W H) {a : Addr} {xs : List V} (h : SqT K B a xs) : SqT K H a xs := h.elim (fun q => .inl (R.sub.rd q)) .inr
theorem RelW.sqL (R : RelW K B φ W H) {a : Addr} {xs : List V} (h : SqL K B a xs) : SqL K H a xs := h.elim (fun q => .inl (R.sub.rd q)) .inr
end

/-! ### states and readings -/
structure AS where
  σ : List (Option D)
  W : Wd
structure Rel (K : PySem.W.Frag) (B : Hp) (φ : List Addr) (S : AS) (σ : L2.St) (H : Hp) : Prop where
  w : RelW K B φ S.W H
  len : S.σ.length = σ.length
  slot : ∀ (i : Nat) d, S.σ[i]? = some (some d) → ∃ v, σ[i]? = some (some v) ∧ Rep K B φ d v
theorem Rel.ext {K : PySem.W.Frag} {B B1 H H1 : Hp} {φ φ1 : List Addr} {S : AS} {W : Wd} {σ : L2.St} (R : Rel K B φ S σ H) (e : Ext B φ B1 φ1) (w : RelW K B1 φ1 W H1) : Rel K B1 φ1 ⟨S.σ, W⟩ σ H1 :=
  ⟨w, R.len, fun i d h => let ⟨v, a, b⟩ := R.slot i d h; ⟨v, a, b.mono e _ _⟩⟩
theorem Rel.set {K : PySem.W.Frag} {B H : Hp} {φ : List Addr} {S : AS} {σ : L2.St} {i : Nat} {d : D} {v : V} (R : Rel K B φ S σ H) (r : Rep K B φ d v) : Rel K B φ ⟨S.σ.set i (some d), S.W⟩ (σ.set i (some v)) H := by
  refine ⟨R.w, by simpa using R.len, fun j d' h => ?_⟩
  by_cases hj : j = i
  · subst hj
    have hl : j < S.σ.length := by
      have := (List.getElem?_eq_some_iff.mp h).1
      simpa using this
    rw [List.getElem?_set_self hl] at h
    cases h
    exact ⟨v, by rw [List.getElem?_set_self (by rw [← R.len]; exact hl)], r⟩
  · rw [List.getElem?_set_ne (Ne.symm hj)] at h ⊢
    exact R.slot j d' h
structure Exn where
  cls : Str
  fs : Option (List (Str × D))
def RepX (K : PySem.W.Frag) (B : Hp) (φ : List Addr) (x : Exn) (cls : Value) (d : Option Addr) : Prop :=
  cls = .ref (He.ga K x.cls) ∧ match x.fs with
    | none => d = none
    | some fs => ∃ dd fvs, d = some dd ∧ B dd = some (.xd fvs) ∧ fvs.map (·.1) = fs.map (·.1) ∧ Reps K B φ (fs.map (·.2)) (fvs.map (·.2))
theorem RepX.mono {K : PySem.W.Frag} {B B1 : Hp} {φ φ1 : List Addr} (e : Ext B φ B1 φ1) {x : Exn} {cls : Value} {d : Option Addr} (h : RepX K B φ x cls d) : RepX K B1 φ1 x cls d := by
  obtain ⟨c, fs⟩ := x
  obtain ⟨h1, h2⟩ := h
  refine ⟨h1, ?_⟩
  cases fs with
  | none => exact h2
  | some fs =>
    obtain ⟨dd, fvs, a, b, c, g⟩ := h2
    exact ⟨dd, fvs, a, e.1 _ _ b, c, g.mono e _ _⟩
abbrev XA := Exn → AS → Prop
/-- a reading over data -/
abbrev M (α : Type) := AS → (α → AS → Prop) → XA → Prop
def M.pure {α : Type} (a : α) : M α := fun S P _ => P a S
def M.bind {α β : Type} (f : M α) (g : α → M β) : M β := fun S P X => f S (fun a S1 => g a S1 P X) X
/-- the run of a reading from a state, to concrete ends -/
def Run {α β : Type} (K : PySem.W.Frag) (WE : WX) (R : Hp → List Addr → α → β → Prop) (f : M α) (B : Hp) (φ : List Addr) (S : AS) (σ : L2.St) (H : Hp) (Q : β → Hp → Prop) : Prop :=
  ∃ (P : α → AS → Prop) (X : XA), f S P X ∧
    (∀ a S' b B' φ' H', P a S' → Ext B φ B' φ' → Rel K B' φ' S' σ H' → R B' φ' a b → Q b H') ∧
    ∀ x S' cls d B' φ' H', X x S' → Ext B φ B' φ' → Rel K B' φ' S' σ H' → RepX K B' φ' x cls d → WE cls d σ H'
def tOfG {α β : Type} (K : PySem.W.Frag) (WE : WX) (R : Hp → List Addr → α → β → Prop) (f : M α) : L2.St → Hp → (β → Hp → Prop) → Prop :=
  fun σ H Q => ∃ B φ S, Rel K B φ S σ H ∧ Run K WE R f B φ S σ H Q
section
variable {K : PySem.W.Frag} {WE : WX} {α β γ δ : Type} {R : Hp → List Addr → α → β → Prop} {R2 : Hp → List Addr → γ → δ → Prop} {B : Hp} {φ : List Addr} {S : AS} {σ : L2.St} {H : Hp}
theorem Run.bind {f : M α} {g : α → M γ} {Q : δ → Hp → Prop} (h : Run K WE R2 (M.bind f g) B φ S σ H Q) :
    Run K WE R f B φ S σ H fun b H1 => ∃ a B1 φ1 S1, Ext B φ B1 φ1 ∧ Rel K B1 φ1 S1 σ H1 ∧ R B1 φ1 a b ∧ Run K WE R2 (g a) B1 φ1 S1 σ H1 Q := by
  obtain ⟨P, X, h1, h2, h3⟩ := h
  refine ⟨fun a S1 => g a S1 P X, X, h1, fun a S' b B' φ' H' hp e r ra => ?_, h3⟩
  exact ⟨a, B', φ', S', e, r, ra, P, X, hp, fun a2 S2 b2 B2 φ2 H2 hp2 e2 r2 ra2 => h2 a2 S2 b2 B2 φ2 H2 hp2 (e.trans e2) r2 ra2, fun x S2 cls d B2 φ2 H2 hx e2 r2 rx => h3 x S2 cls d B2 φ2 H2 hx (e.trans e2) r2 rx⟩
theorem Run.imp {f : M α} {Q Q' : β → Hp → Prop} (h : Run K WE R f B φ S σ H Q) (q : ∀ b H1, Q b H1 → Q' b H1) : Run K WE R f B φ S σ H Q' := by
  obtain ⟨P, X, h1, h2, h3⟩ := h
  exact ⟨P, X, h1, fun a S' b B' φ' H' a1 a2 a3 a4 => q _ _ (h2 a S' b B' φ' H' a1 a2 a3 a4), h3⟩
end
abbrev tE (K : PySem.W.Frag) (WE : WX) (f : M D) : TE := tOfG K WE (fun B φ => Rep K B φ) f
abbrev tT (K : PySem.W.Frag) (WE : WX) (f : M Bool) : TT := tOfG K WE (fun _ _ a b => b = a) f
abbrev tA (K : PySem.W.Frag) (WE : WX) (f : M (List D)) : TA := tOfG K WE (fun B φ => Reps K B φ) f
abbrev tO (K : PySem.W.Frag) (WE : WX) (f : M (Option Int)) : TO := tOfG K WE (fun _ _ a b => b = a) f
structure AEnds where
  nx : AS → Prop
  rt : D → AS → Prop
  bk : AS → Prop
  ct : AS → Prop
  ex : XA
abbrev MS := AS → AEnds → Prop
def RunS (K : PySem.W.Frag) (WE : WX) (f : MS) (B : Hp) (φ : List Addr) (S : AS) (σ : L2.St) (H : Hp) (D : Ends) : Prop :=
  ∃ E : AEnds, f S E ∧
    (∀ S' σ' B' φ' H', E.nx S' → Ext B φ B' φ' → Rel K B' φ' S' σ' H' → D.nx σ' H') ∧
    (∀ a S' σ' v B' φ' H', E.rt a S' → Ext B φ B' φ' → Rel K B' φ' S' σ' H' → Rep K B' φ' a v → D.rt v H') ∧
    (∀ S' σ' B' φ' H', E.bk S' → Ext B φ B' φ' → Rel K B' φ' S' σ' H' → D.bk σ' H') ∧
    (∀ S' σ' B' φ' H', E.ct S' → Ext B φ B' φ' → Rel K B' φ' S' σ' H' → D.ct σ' H') ∧
    ∀ x S' σ' cls d B' φ' H', E.ex x S' → Ext B φ B' φ' → Rel K B' φ' S' σ' H' → RepX K B' φ' x cls d → WE cls d σ' H'
def tS (K : PySem.W.Frag) (WE : WX) (f : MS) : TS := fun D σ H => ∃ B φ S, Rel K B φ S σ H ∧ RunS K WE f B φ S σ H D
/-- from an expression's run to a statement's -/
theorem RunS.expr {K : PySem.W.Frag} {WE : WX} {α β : Type} {R : Hp → List Addr → α → β → Prop} {f : M α} {g : α → MS} {B : Hp} {φ : List Addr} {S : AS} {σ : L2.St} {H : Hp} {D : Ends}
    (h : RunS K WE (fun S E => f S (fun a S1 => g a S1 E) E.ex) B φ S σ H D) :
    Run K WE R f B φ S σ H fun b H1 => ∃ a B1 φ1 S1, Ext B φ B1 φ1 ∧ Rel K B1 φ1 S1 σ H1 ∧ R B1 φ1 a b ∧ RunS K WE (g a) B1 φ1 S1 σ H1 D := by
  obtain ⟨E, h1, hn, hr, hb, hc, hx⟩ := h
  refine ⟨fun a S1 => g a S1 E, E.ex, h1, fun a S' b B' φ' H' hp e r ra => ?_, fun x S' cls d B' φ' H' => hx x S' σ cls d B' φ' H'⟩
  exact ⟨a, B', φ', S', e, r, ra, E, hp, fun S' σ' B2 φ2 H' a1 a2 a3 => hn S' σ' B2 φ2 H' a1 (e.trans a2) a3, fun d S' σ' v B2 φ2 H' a1 a2 a3 a4 => hr d S' σ' v B2 φ2 H' a1 (e.trans a2) a3 a4,
    fun S' σ' B2 φ2 H' a1 a2 a3 => hb S' σ' B2 φ2 H' a1 (e.trans a2) a3, fun S' σ' B2 φ2 H' a1 a2 a3 => hc S' σ' B2 φ2 H' a1 (e.trans a2) a3, fun x S' σ' cls d B2 φ2 H' a1 a2 a3 a4 => hx x S' σ' cls d B2 φ2 H' a1 (e.trans a2) a3 a4⟩
end Tw

set_option Elab.async false
set_option linter.all false
set_option maxRecDepth 100000
set_option maxHeartbeats 4000000
namespace Tw
open PySem PySem.Spec PyProof.Rows L2

theorem PE.weak {X : Cx} {e : Expr} {t t' : TE} (h : PE X e t) (w : ∀ σ H Q, t' σ H Q → t σ H Q) : PE X e t' := ⟨fun pins s σ H Q I q => h.run pins s σ H Q I (w σ H Q q)⟩
theorem PT.weak {X : Cx} {e : Expr} {t t' : TT} (h : PT X e t) (w : ∀ σ H Q, t' σ H Q → t σ H Q) : PT X e t' := ⟨fun pins s σ H Q I q => h.run pins s σ H Q I (w σ H Q q)⟩
theorem PA.weak {X : Cx} {e : List Expr} {t t' : TA} (h : PA X e t) (w : ∀ σ H Q, t' σ H Q → t σ H Q) : PA X e t' := ⟨fun pos pins s σ H Q I q => h.run pos pins s σ H Q I (w σ H Q q)⟩
theorem PW.weak {X : Cx} {e : Expr} {t t' : TT} (h : PW X e t) (w : ∀ σ H Q, t' σ H Q → t σ H Q) : PW X e t' := ⟨fun wh pins s σ H Q I q => h.run wh pins s σ H Q I (w σ H Q q)⟩
theorem PS.weak {X : Cx} {e : Stmt} {t t' : TS} (h : PS X e t) (w : ∀ D σ H, t' D σ H → t D σ H) : PS X e t' := ⟨fun pins s σ H D I q => h.run pins s σ H D I (w D σ H q)⟩
theorem PSs.weak {X : Cx} {e : List Stmt} {t t' : TS} (h : PSs X e t) (w : ∀ D σ H, t' D σ H → t D σ H) : PSs X e t' := ⟨fun pins s σ H D I q => h.run pins s σ H D I (w D σ H q)⟩
theorem OpR.or {X : Cx} {f : Value → Value → Sem Value} {r r' : R2} (h : OpR X f r) (h' : OpR X f r') : OpR X f (fun x y H Q => r x y H Q ∨ r' x y H Q) :=
  fun pins s σ H x y v u Q I rx ry q => q.elim (h pins s σ H x y v u Q I rx ry) (h' pins s σ H x y v u Q I rx ry)

/-! ### data as the kit's -/
mutual
def D.py : D → Option PyData
  | .non => some .none
  | .bl b => some (.bool b)
  | .int i => some (.int i)
  | .str s => some (.str s)
  | .tup l => (D.pys l).map .tuple
  | .lst l => (D.pys l).map .list
  | .sq l => (D.pys l).map .list
  | _ => none
def D.pys : List D → Option (List PyData)
  | [] => some []
  | d :: l => match D.py d, D.pys l with
    | some x, some xs => some (x :: xs)
    | _, _ => none
end
mutual
/-- == -/
def D.eq : D → D → Bool
  | .non, .non => true
  | .bl a, .bl b => a == b
  | .bl a, .int j => (if a then 1 else 0) == j
  | .int i, .bl b => i == (if b then 1 else 0)
  | .int i, .int j => i == j
  | .str x, .str y => x == y
  | .lst xs, .lst ys => D.eqs xs ys
  | .lst xs, .sq ys => D.eqs xs ys
  | .sq xs, .lst ys => D.eqs xs ys
  | .sq xs, .sq ys => D.eqs xs ys
  | .tup xs, .tup ys => D.eqs xs ys
  | _, _ => false
def D.eqs : List D → List D → Bool
  | [], [] => true
  | x :: xs, y :: ys => D.eq x y && D.eqs xs ys
  | _, _ => false
end
mutual
/-- no dict, handle, function within; at most n deep -/
def D.lay : Nat → D → Bool
  | _, .non => true
  | _, .bl _ => true
  | _, .int _ => true
  | _, .str _ => true
  | 0, _ => false
  | n + 1, .tup l => D.lays n l
  | n + 1, .lst l => D.lays n l
  | n + 1, .sq l => D.lays n l
  | _, _ => false
def D.lays : Nat → List D → Bool
  | _, [] => true
  | n, d :: l => D.lay n d && D.lays n l
end
mutual
theorem D.py_lay : ∀ (n : Nat) (d : D), d.lay n = true → ∃ x, d.py = some x ∧ x.plain = true ∧ x.depth ≤ n
  | _, .non, _ => ⟨.none, by simp only [D.py], rfl, Nat.zero_le _⟩
  | _, .bl b, _ => ⟨.bool b, by simp only [D.py], rfl, Nat.zero_le _⟩
  | _, .int i, _ => ⟨.int i, by simp only [D.py], rfl, Nat.zero_le _⟩
  | _, .str s, _ => ⟨.str s, by simp only [D.py], rfl, Nat.zero_le _⟩
  | 0, .tup l, h => by simp [D.lay] at h
  | 0, .lst l, h => by simp [D.lay] at h
  | 0, .ty n, h => by simp [D.lay] at h
  | 0, .gl a, h => by simp [D.lay] at h
  | 0, .gb a, h => by simp [D.lay] at h
  | 0, .dct ks l, h => by simp [D.lay] at h
  | 0, .sq l, h => by simp [D.lay] at h
  | 0, .hnd n, h => by simp [D.lay] at h
  | n + 1, .tup l, h => by
    obtain ⟨xs, e, p, q⟩ := D.pys_lay n l (by simpa [D.lay] using h)
    exact ⟨.tuple xs, by simp [D.py, e], by simpa [PyData.plain] using p, by simp only [PyData.depth]; omega⟩
  | n + 1, .lst l, h => by
    obtain ⟨xs, e, p, q⟩ := D.pys_lay n l (by simpa [D.lay] using h)
    exact ⟨.list xs, by simp [D.py, e], by simpa [PyData.plain] using p, by simp only [PyData.depth]; omega⟩
  | n + 1, .ty _, h => by simp [D.lay] at h
  | n + 1, .gl a, h => by simp [D.lay] at h
  | n + 1, .gb a, h => by simp [D.lay] at h
  | n + 1, .dct ks l, h => by simp [D.lay] at h
  | n + 1, .sq l, h => by
    obtain ⟨xs, e, p, q⟩ := D.pys_lay n l (by simpa [D.lay] using h)
    exact ⟨.list xs, by simp [D.py, e], by simpa [PyData.plain] using p, by simp only [PyData.depth]; omega⟩
  | n + 1, .hnd _, h => by simp [D.lay] at h
theorem D.pys_lay : ∀ (n : Nat) (l : List D), D.lays n l = true → ∃ xs, D.pys l = some xs ∧ PyData.plainAll xs = true ∧ PyData.depthAll xs ≤ n
  | n, [], _ => ⟨[], by simp only [D.pys], rfl, Nat.zero_le _⟩
  | n, d :: l, h => by
    have h' : d.lay n = true ∧ D.lays n l = true := by simpa [D.lays] using h
    obtain ⟨x, e, p, q⟩ := D.py_lay n d h'.1
    obtain ⟨xs, e2, p2, q2⟩ := D.pys_lay n l h'.2
    exact ⟨x :: xs, by simp only [D.pys, e, e2], by simp [PyData.plainAll, p, p2], by simp only [PyData.depthAll]; omega⟩
end
mutual
theorem D.eq_py : ∀ (a b : D) (x y : PyData), a.py = some x → b.py = some y → PyData.eqv x y = a.eq b
  | .non, b, x, y, ha, hb => by
    simp only [D.py, Option.some.injEq] at ha; subst ha
    cases b <;> simp only [D.py, Option.some.injEq, Option.map_eq_some_iff, reduceCtorEq] at hb <;> first | (subst hb; simp [PyData.eqv, D.eq]) | (obtain ⟨_, _, rfl⟩ := hb; simp [PyData.eqv, D.eq])
  | .bl _, b, x, y, ha, hb => by
    simp only [D.py, Option.some.injEq] at ha; subst ha
    cases b <;> simp only [D.py, Option.some.injEq, Option.map_eq_some_iff, reduceCtorEq] at hb <;> first | (subst hb; simp [PyData.eqv, D.eq]) | (obtain ⟨_, _, rfl⟩ := hb; simp [PyData.eqv, D.eq])
  | .int _, b, x, y, ha, hb => by
    simp only [D.py, Option.some.injEq] at ha; subst ha
    cases b <;> simp only [D.py, Option.some.injEq, Option.map_eq_some_iff, reduceCtorEq] at hb <;> first | (subst hb; simp [PyData.eqv, D.eq]) | (obtain ⟨_, _, rfl⟩ := hb; simp [PyData.eqv, D.eq])
  | .str _, b, x, y, ha, hb => by
    simp only [D.py, Option.some.injEq] at ha; subst ha
    cases b <;> simp only [D.py, Option.some.injEq, Option.map_eq_some_iff, reduceCtorEq] at hb <;> first | (subst hb; simp [PyData.eqv, D.eq]) | (obtain ⟨_, _, rfl⟩ := hb; simp [PyData.eqv, D.eq])
  | .tup l, b, x, y, ha, hb => by
    simp only [D.py, Option.map_eq_some_iff] at ha
    obtain ⟨xs, h1, rfl⟩ := ha
    cases b <;> simp only [D.py, Option.some.injEq, Option.map_eq_some_iff, reduceCtorEq] at hb <;> first
      | (subst hb; simp [PyData.eqv, D.eq])
      | (obtain ⟨ys, h2, rfl⟩ := hb; first | (simp only [PyData.eqv, D.eq]; exact D.eqs_py _ _ _ _ h1 h2) | simp [PyData.eqv, D.eq])
  | .lst l, b, x, y, ha, hb => by
    simp only [D.py, Option.map_eq_some_iff] at ha
    obtain ⟨xs, h1, rfl⟩ := ha
    cases b <;> simp only [D.py, Option.some.injEq, Option.map_eq_some_iff, reduceCtorEq] at hb <;> first
      | (subst hb; simp [PyData.eqv, D.eq])
      | (obtain ⟨ys, h2, rfl⟩ := hb; first | (simp only [PyData.eqv, D.eq]; exact D.eqs_py _ _ _ _ h1 h2) | simp [PyData.eqv, D.eq])
  | .sq l, b, x, y, ha, hb => by
    simp only [D.py, Option.map_eq_some_iff] at ha
    obtain ⟨xs, h1, rfl⟩ := ha
    cases b <;> simp only [D.py, Option.some.injEq, Option.map_eq_some_iff, reduceCtorEq] at hb <;> first
      | (subst hb; simp [PyData.eqv, D.eq])
      | (obtain ⟨ys, h2, rfl⟩ := hb; first | (simp only [PyData.eqv, D.eq]; exact D.eqs_py _ _ _ _ h1 h2) | simp [PyData.eqv, D.eq])
  | .ty _, _, _, _, ha, _ => by simp [D.py] at ha
  | .gl _, _, _, _, ha, _ => by simp [D.py] at ha
  | .gb _, _, _, _, ha, _ => by simp [D.py] at ha
  | .dct _ _, _, _, _, ha, _ => by simp [D.py] at ha
  | .hnd _, _, _, _, ha, _ => by simp [D.py] at ha
theorem D.eqs_py : ∀ (a b : List D) (x y : List PyData), D.pys a = some x → D.pys b = some y → PyData.eqvAll x y = D.eqs a b
  | [], [], x, y, ha, hb => by
    simp only [D.pys, Option.some.injEq] at ha hb; subst ha; subst hb; simp [PyData.eqvAll, D.eqs]
  | [], d :: l, x, y, ha, hb => by
    simp only [D.pys, Option.some.injEq] at ha; subst ha
    simp only [D.pys] at hb
    split at hb
    · cases hb; simp [PyData.eqvAll, D.eqs]
    · cases hb
  | d :: l, [], x, y, ha, hb => by
    simp only [D.pys, Option.some.injEq] at hb; subst hb
    simp only [D.pys] at ha
    split at ha
    · cases ha; simp [PyData.eqvAll, D.eqs]
    · cases ha
  | d :: l, e :: m, x, y, ha, hb => by
    simp only [D.pys] at ha hb
    split at ha
    · rename_i x1 xs1 h1 h2
      cases ha
      split at hb
      · rename_i y1 ys1 h3 h4
        cases hb
        simp only [PyData.eqvAll, D.eqs]
        rw [D.eq_py d e _ _ h1 h3, D.eqs_py l m _ _ h2 h4]
      · cases hb
    · cases ha
end
section
variable {K : PySem.W.Frag} {B H : Hp} {φ : List Addr} {W : Wd}
mutual
theorem Rep.dp (R : RelW K B φ W H) : ∀ (d : D) (v : V) (x : PyData), Rep K B φ d v → d.py = some x → Dp K H v x
  | .non, v, x, h, e => by simp only [Rep] at h; simp only [D.py, Option.some.injEq] at e; subst h; subst e; exact .non
  | .bl _, v, x, h, e => by simp only [Rep] at h; simp only [D.py, Option.some.injEq] at e; subst h; subst e; exact .bl _
  | .int _, v, x, h, e => by simp only [Rep] at h; simp only [D.py, Option.some.injEq] at e; subst h; subst e; exact .int _
  | .str _, v, x, h, e => by simp only [Rep] at h; simp only [D.py, Option.some.injEq] at e; subst h; subst e; exact .str _
  | .tup l, v, x, h, e => by
    simp only [Rep] at h
    simp only [D.py, Option.map_eq_some_iff] at e
    obtain ⟨xs, e1, rfl⟩ := e
    obtain ⟨p, vs, rfl, h2, h3⟩ := h
    exact .tup (R.sqT h2) (Reps.dp R l vs xs h3 e1)
  | .lst l, v, x, h, e => by
    simp only [Rep] at h
    simp only [D.py, Option.map_eq_some_iff] at e
    obtain ⟨xs, e1, rfl⟩ := e
    obtain ⟨p, vs, rfl, h2, h3⟩ := h
    exact .lst (SqL.of (R.lst h2)) (Reps.dp R l vs xs h3 e1)
  | .sq l, v, x, h, e => by
    simp only [Rep] at h
    simp only [D.py, Option.map_eq_some_iff] at e
    obtain ⟨xs, e1, rfl⟩ := e
    obtain ⟨p, vs, rfl, h2, h3⟩ := h
    exact .lst (R.sqL h2) (Reps.dp R l vs xs h3 e1)
  | .ty _, _, _, _, ha => by simp [D.py] at ha
  | .gl _, _, _, _, ha => by simp [D.py] at ha
  | .gb _, _, _, _, ha => by simp [D.py] at ha
  | .dct _ _, _, _, _, ha => by simp [D.py] at ha
  | .hnd _, _, _, _, ha => by simp [D.py] at ha
theorem Reps.dp (R : RelW K B φ W H) : ∀ (l : List D) (vs : List V) (xs : List PyData), Reps K B φ l vs → D.pys l = some xs → DpAll K H vs xs
  | [], vs, xs, h, e => by
    rw [h.nil_inv]
    simp only [D.pys, Option.some.injEq] at e; subst e
    exact .nil
  | d :: l, vs, xs, h, e => by
    obtain ⟨v, r, rfl, h1, h2⟩ := h.cons_inv
    simp only [D.pys] at e
    split at e
    · rename_i x1 xs1 e1 e2
      cases e
      exact .cons (Rep.dp R d v _ h1 e1) (Reps.dp R l r _ h2 e2)
    · cases e
end
end
/-- what a value shows: a handle of a list shows the list -/
def vw (W : Wd) : D → D
  | .hnd n => match W[n]? with
    | some (.lst l) => .lst l
    | _ => .hnd n
  | d => d
/-- a list that is to be read -/
def rdL (W : Wd) : D → Option (List D)
  | .lst l => some l
  | .sq l => some l
  | .hnd n => match W[n]? with
    | some (.lst l) => some l
    | _ => none
  | _ => none
/-- a sequence (list or tuple) -/
def rdS (W : Wd) : D → Option (List D)
  | .tup l => some l
  | d => rdL W d
theorem vw_dp {K : PySem.W.Frag} {B H : Hp} {φ : List Addr} {W : Wd} (R : RelW K B φ W H) {d : D} {v : V} {x : PyData} (h : Rep K B φ d v) (e : (vw W d).py = some x) : Dp K H v x := by
  cases d with
  | hnd n =>
    simp only [vw] at e
    split at e
    · rename_i l hl
      obtain ⟨a, ha, xs, hx, hr⟩ := R.get hl
      simp only [Rep] at h
      obtain ⟨a', ha', rfl⟩ := h
      rw [ha] at ha'; cases ha'
      simp only [D.py, Option.map_eq_some_iff] at e
      obtain ⟨ys, e1, rfl⟩ := e
      exact .lst (SqL.of hx) (Reps.dp R l xs ys hr e1)
    · simp [D.py] at e
  | _ => exact Rep.dp R _ v x h e
theorem rdL_ok {K : PySem.W.Frag} {B H : Hp} {φ : List Addr} {W : Wd} (R : RelW K B φ W H) {d : D} {v : V} {l : List D} (h : Rep K B φ d v) (e : rdL W d = some l) : ∃ p xs, v = .ref p ∧ SqL K H p xs ∧ Reps K B φ l xs := by
  cases d with
  | lst m =>
    simp only [rdL, Option.some.injEq] at e; subst e
    simp only [Rep] at h
    obtain ⟨p, xs, h1, h2, h3⟩ := h
    exact ⟨p, xs, h1, SqL.of (R.lst h2), h3⟩
  | sq m =>
    simp only [rdL, Option.some.injEq] at e; subst e
    simp only [Rep] at h
    obtain ⟨p, xs, h1, h2, h3⟩ := h
    exact ⟨p, xs, h1, R.sqL h2, h3⟩
  | hnd n =>
    simp only [rdL] at e
    split at e
    · rename_i l' hl
      cases e
      obtain ⟨a, ha, xs, hx, hr⟩ := R.get hl
      simp only [Rep] at h
      obtain ⟨a', ha', rfl⟩ := h
      rw [ha] at ha'; cases ha'
      exact ⟨a, xs, rfl, SqL.of hx, hr⟩
    · cases e
  | _ => simp [rdL] at e
/-- .. one that the kit follows itself -/
def rdM (W : Wd) : D → Option (List D)
  | .sq _ => none
  | d => rdL W d
theorem rdM_ok {K : PySem.W.Frag} {B H : Hp} {φ : List Addr} {W : Wd} (R : RelW K B φ W H) {d : D} {v : V} {l : List D} (h : Rep K B φ d v) (e : rdM W d = some l) : ∃ p xs, v = .ref p ∧ H p = some (.lst xs) ∧ Reps K B φ l xs := by
  cases d with
  | lst m =>
    simp only [rdM, rdL, Option.some.injEq] at e; subst e
    simp only [Rep] at h
    obtain ⟨p, xs, h1, h2, h3⟩ := h
    exact ⟨p, xs, h1, R.lst h2, h3⟩
  | hnd n =>
    simp only [rdM, rdL] at e
    split at e
    · rename_i l' hl
      cases e
      obtain ⟨a, ha, xs, hx, hr⟩ := R.get hl
      simp only [Rep] at h
      obtain ⟨a', ha', rfl⟩ := h
      rw [ha] at ha'; cases ha'
      exact ⟨a, xs, rfl, hx, hr⟩
    · cases e
  | _ => simp [rdM, rdL] at e
theorem rdS_ok {K : PySem.W.Frag} {B H : Hp} {φ : List Addr} {W : Wd} (R : RelW K B φ W H) {d : D} {v : V} {l : List D} (h : Rep K B φ d v) (e : rdS W d = some l) : ∃ p xs, v = .ref p ∧ (SqL K H p xs ∨ SqT K H p xs) ∧ Reps K B φ l xs := by
  cases d with
  | tup m =>
    simp only [rdS, Option.some.injEq] at e; subst e
    simp only [Rep] at h
    obtain ⟨p, xs, h1, h2, h3⟩ := h
    exact ⟨p, xs, h1, .inr (R.sqT h2), h3⟩
  | _ =>
    obtain ⟨p, xs, h1, h2, h3⟩ := rdL_ok R h (show rdL W _ = some l from e)
    exact ⟨p, xs, h1, .inl h2, h3⟩

/-! ### operations by values -/
abbrev Dop := D → D → M D
def OpA (K : PySem.W.Frag) (WE : WX) (r : R2) (f : Dop) : Prop :=
  ∀ (B : Hp) (φ : List Addr) (S : AS) (σ : L2.St) (H : Hp) (a b : D) (x y : V) (Q : VK), Rel K B φ S σ H → Rep K B φ a x → Rep K B φ b y → Run K WE (fun B φ => Rep K B φ) (f a b) B φ S σ H Q → r x y H Q
theorem OpA.inl {K : PySem.W.Frag} {WE : WX} {r r' : R2} {f : Dop} (h : OpA K WE r f) : OpA K WE (fun x y H Q => r x y H Q ∨ r' x y H Q) f := fun B φ S σ H a b x y Q R ra rb q => .inl (h B φ S σ H a b x y Q R ra rb q)
def mBin (f : Dop) (fa fb : M D) : M D := M.bind fa fun x => M.bind fb fun y => f x y
section
variable {X : Cx} {WE : WX} {a b c : Expr} {fa fb fc : M D} {pos : Pos}
theorem tOp_of {K : PySem.W.Frag} {r : R2} {f : Dop} (hr : OpA K WE r f) (σ : L2.St) (H : Hp) (Q : VK) (h : tE K WE (mBin f fa fb) σ H Q) : tOp r (tE K WE fa) (tE K WE fb) σ H Q := by
  obtain ⟨B, φ, S, R, run⟩ := h
  refine ⟨B, φ, S, R, run.bind.imp ?_⟩
  rintro x H1 ⟨d, B1, φ1, S1, e1, R1, r1, run1⟩
  refine ⟨B1, φ1, S1, R1, run1.bind.imp ?_⟩
  rintro y H2 ⟨d2, B2, φ2, S2, e2, R2, r2, run2⟩
  exact hr B2 φ2 S2 σ H2 d d2 x y Q R2 (r1.mono e2 _ _) r2 run2
theorem de_bin {op : Operator} {r : R2} {f : Dop} (ho : OpR X (binaryOp op) r) (hr : OpA X.K WE r f) (ha : PE X a (tE X.K WE fa)) (hb : PE X b (tE X.K WE fb)) : PE X (.BinOp a op b pos) (tE X.K WE (mBin f fa fb)) :=
  PE.weak (pe_op ho ha hb) fun σ H Q h => tOp_of hr σ H Q h
theorem de_cmp {op : CmpOp} {r : R2} {f : Dop} (ho : OpR X (compareOp op) r) (hr : OpA X.K WE r f) (ha : PE X a (tE X.K WE fa)) (hb : PE X b (tE X.K WE fb)) (hm : behindInMarks op b = false) : PE X (.Compare a [op] [b] pos) (tE X.K WE (mBin f fa fb)) :=
  PE.weak (pe_cmpR ho ha hb hm) fun σ H Q h => tOp_of hr σ H Q h
/-- a bool out of a value -/
def mTest (f : M D) : M Bool := M.bind f fun d => fun S P _ => match d with
  | .bl b => P b S
  | _ => False
theorem tB_of {K : PySem.W.Frag} (σ : L2.St) (H : Hp) (Q : Bool → Hp → Prop) (h : tT K WE (mTest fa) σ H Q) : tB (tE K WE fa) σ H Q := by
  obtain ⟨B, φ, S, R, run⟩ := h
  refine ⟨B, φ, S, R, run.bind.imp ?_⟩
  rintro x H1 ⟨d, B1, φ1, S1, e1, R1, r1, P, X, h1, h2, h3⟩
  cases d with
  | bl b =>
    simp only [Rep] at r1
    exact ⟨b, r1, h2 b S1 b B1 φ1 H1 h1 (Ext.refl _ _) R1 rfl⟩
  | _ => exact h1.elim
theorem dt_cmp {op : CmpOp} {r : R2} {f : Dop} (ho : OpR X (compareOp op) r) (hr : OpA X.K WE r f) (ha : PE X a (tE X.K WE fa)) (hb : PE X b (tE X.K WE fb)) (hm : behindInMarks op b = false) : PT X (.Compare a [op] [b] pos) (tT X.K WE (mTest (mBin f fa fb))) :=
  PT.weak (pt_cmpR ho ha hb hm) fun σ H Q h => by
    have q := tB_of σ H Q h
    exact tOp_of hr σ H _ q
theorem dt_val {e : Expr} (h : PE X e (tE X.K WE fa)) (he : ∀ whole, isTrue e X.env whole = (do let v ← whole; standAt e.pos; holding [v] (truthy v)) := by intro _; rfl) : PT X e (tT X.K WE (mTest fa)) :=
  PT.weak (pt_val h he) fun σ H Q h => tB_of σ H Q h
end

section
variable {K : PySem.W.Frag} {WE : WX}
/-- a pure end -/
theorem Run.fin {α β : Type} {R : Hp → List Addr → α → β → Prop} {B : Hp} {φ : List Addr} {S : AS} {σ : L2.St} {H : Hp} {Q : β → Hp → Prop} {P : α → AS → Prop}
    (h2 : ∀ a S' b B' φ' H', P a S' → Ext B φ B' φ' → Rel K B' φ' S' σ H' → R B' φ' a b → Q b H') {a : α} {b : β} (hp : P a S) (R1 : Rel K B φ S σ H) (r : R B φ a b) : Q b H :=
  h2 a S b B φ H hp (Ext.refl _ _) R1 r
def iop (C : Int → Int → Prop) (g : Int → Int → D) : Dop
  | .int i, .int j => fun S P _ => C i j ∧ P (g i j) S
  | _, _ => fun _ _ _ => False
theorem opa_int {C : Int → Int → Prop} {g : Int → Int → D} {gv : Int → Int → V} (h : ∀ i j B φ, Rep K B φ (g i j) (gv i j)) : OpA K WE (rI C gv) (iop C g) := by
  intro B φ S σ H a b x y Q R ra rb q
  obtain ⟨P, Xx, h1, h2, h3⟩ := q
  cases a with
  | int i =>
    cases b with
    | int j =>
      simp only [Rep] at ra rb
      exact ⟨i, j, ra, rb, h1.1, Run.fin h2 h1.2 R (h i j B φ)⟩
    | _ => exact h1.elim
  | _ => exact h1.elim
def iop0 (g : Int → Int → D) : Dop
  | .int i, .int j => fun S P _ => P (g i j) S
  | _, _ => fun _ _ _ => False
theorem opa_int0 {g : Int → Int → D} {gv : Int → Int → V} (h : ∀ i j B φ, Rep K B φ (g i j) (gv i j)) : OpA K WE (rI0 gv) (iop0 g) := by
  intro B φ S σ H a b x y Q R ra rb q
  obtain ⟨P, Xx, h1, h2, h3⟩ := q
  cases a with
  | int i =>
    cases b with
    | int j =>
      simp only [Rep] at ra rb
      exact ⟨i, j, ra, rb, Run.fin h2 h1 R (h i j B φ)⟩
    | _ => exact h1.elim
  | _ => exact h1.elim
def dSub : Dop := iop0 fun i j => .int (i - j)
def dMul : Dop := iop CMul fun i j => .int (i * j)
def dMod : Dop := iop (fun _ j => 0 < j) fun i j => .int (i % j)
def dDiv : Dop := iop CDivW fun i j => .int (i / j)
def dPow : Dop := iop CPow fun i j => .int (i ^ j.toNat)
def dLt : Dop := iop0 fun i j => .bl (decide (i < j))
def dLe : Dop := iop0 fun i j => .bl (decide (i ≤ j))
def dGt : Dop := iop0 fun i j => .bl (decide (j < i))
def dGe : Dop := iop0 fun i j => .bl (decide (j ≤ i))
/-- a new list: frozen, or with a handle -/
def newL (h : Bool) (l : List D) : M D := fun S P _ => if h = true then P (.hnd S.W.length) ⟨S.σ, S.W ++ [.lst l]⟩ else P (.lst l) S
theorem newL_ok {h : Bool} {l : List D} {B : Hp} {φ : List Addr} {S : AS} {σ : L2.St} {H : Hp} {Q : VK} (R : Rel K B φ S σ H) (q : Run K WE (fun B φ => Rep K B φ) (newL h l) B φ S σ H Q) {xs : List V} (r : Reps K B φ l xs) {p : Addr} (hp : H p = none) :
    Q (.ref p) (upd H p (.lst xs)) := by
  obtain ⟨P, Xx, h1, h2, h3⟩ := q
  cases h with
  | true =>
    have h1' : P (.hnd S.W.length) ⟨S.σ, S.W ++ [.lst l]⟩ := h1
    obtain ⟨w, e⟩ := R.w.add (o := .lst l) (ho := .lst xs) hp ⟨xs, upd_same, r⟩
    refine h2 _ _ _ _ _ _ h1' e (R.ext e w) ?_
    simp only [Rep]
    exact ⟨p, by rw [← R.w.len, List.getElem?_append_right (Nat.le_refl _)]; simp, rfl⟩
  | false =>
    have h1' : P (.lst l) S := h1
    obtain ⟨w, e⟩ := R.w.frz (o := .lst xs) hp
    refine h2 _ _ _ _ _ _ h1' e (R.ext e w) ?_
    simp only [Rep]
    exact ⟨p, xs, rfl, upd_same, r.mono e _ _⟩
theorem newT_ok {l : List D} {B : Hp} {φ : List Addr} {S : AS} {σ : L2.St} {H : Hp} {Q : VK} {P : D → AS → Prop} (R : Rel K B φ S σ H) (h1 : P (.tup l) S)
    (h2 : ∀ a S' b B' φ' H', P a S' → Ext B φ B' φ' → Rel K B' φ' S' σ H' → Rep K B' φ' a b → Q b H') {xs : List V} (r : Reps K B φ l xs) {p : Addr} (hp : H p = none) : Q (.ref p) (upd H p (.tup xs)) := by
  obtain ⟨w, e⟩ := R.w.frz (o := .tup xs) hp
  refine h2 _ _ _ _ _ _ h1 e (R.ext e w) ?_
  simp only [Rep]
  exact ⟨p, xs, rfl, SqT.of upd_same, r.mono e _ _⟩
theorem Run.bindP {α β γ : Type} {R : Hp → List Addr → α → β → Prop} {f : M γ} : True := trivial
/-- + -/
def dAdd (h : Bool) : Dop
  | .int i, .int j => fun S P _ => P (.int (i + j)) S
  | .str x, .str y => fun S P _ => x.length + y.length ≤ sizeLine ∧ P (.str (x ++ y)) S
  | .tup l, .tup m => fun S P _ => l ≠ [] ∧ l.length + m.length ≤ sizeLine ∧ P (.tup (l ++ m)) S
  | a, b => fun S P X => match rdM S.W a, rdM S.W b with
    | some l, some m => l.length + m.length ≤ sizeLine ∧ newL h (l ++ m) S P X
    | _, _ => False
end
end Tw

set_option Elab.async false
set_option linter.all false
set_option maxRecDepth 100000
set_option maxHeartbeats 4000000
namespace Tw
open PySem PySem.Spec PyProof.Rows L2

section
variable {K : PySem.W.Frag} {WE : WX}
abbrev RRun (K : PySem.W.Frag) (WE : WX) (f : M D) (B : Hp) (φ : List Addr) (S : AS) (σ : L2.St) (H : Hp) (Q : VK) : Prop := Run K WE (fun B φ => Rep K B φ) f B φ S σ H Q
theorem Run.ret {f : M D} {B : Hp} {φ : List Addr} {S : AS} {σ : L2.St} {H : Hp} {Q : VK} {d : D} {v : V} (R : Rel K B φ S σ H) (q : RRun K WE f B φ S σ H Q) (h : ∀ P X, f S P X → P d S) (r : Rep K B φ d v) : Q v H := by
  obtain ⟨P, Xx, h1, h2, h3⟩ := q
  exact h2 d S v B φ H (h P Xx h1) (Ext.refl _ _) R r
def rAddAll (K : PySem.W.Frag) : R2 := fun x y H Q => rI0 (fun i j => .int (i + j)) x y H Q ∨ (∃ i j, x = .str i ∧ y = .str j ∧ i.length + j.length ≤ sizeLine ∧ Q (.str (i ++ j)) H) ∨ rCatT K x y H Q ∨ rCat x y H Q
theorem op_addAll {X : Cx} : OpR X (binaryOp .Add) (rAddAll X.K) := OpR.or op_add (OpR.or op_add_str (OpR.or op_catT op_cat))
theorem cat_lists {h : Bool} {a b : D} {x y : V} {B : Hp} {φ : List Addr} {S : AS} {σ : L2.St} {H : Hp} {Q : VK} {l m : List D} (R : Rel K B φ S σ H) (ra : Rep K B φ a x) (rb : Rep K B φ b y) (e1 : rdM S.W a = some l) (e2 : rdM S.W b = some m)
    (hz : l.length + m.length ≤ sizeLine) (q : RRun K WE (newL h (l ++ m)) B φ S σ H Q) : rCat x y H Q := by
  obtain ⟨p, xs, rfl, hx, rx⟩ := rdM_ok R.w ra e1
  obtain ⟨p2, ys, rfl, hy, ry⟩ := rdM_ok R.w rb e2
  exact ⟨p, p2, xs, ys, rfl, rfl, hx, hy, by rw [rx.length, ry.length]; exact hz, fun z hz => newL_ok R q (rx.append ry) hz⟩
theorem opa_add (h : Bool) : OpA K WE (rAddAll K) (dAdd h) := by
  intro B φ S σ H a b x y Q R ra rb q
  have gen : (∀ P X, dAdd h a b S P X → ∃ l m, rdM S.W a = some l ∧ rdM S.W b = some m ∧ l.length + m.length ≤ sizeLine ∧ newL h (l ++ m) S P X) → rAddAll K x y H Q := fun g => by
    obtain ⟨P, Xx, h1, h2, h3⟩ := q
    obtain ⟨l, m, e1, e2, hz, n⟩ := g P Xx h1
    exact .inr (.inr (.inr (cat_lists (WE := WE) R ra rb e1 e2 hz ⟨P, Xx, n, h2, h3⟩)))
  have gen2 : (∀ P X, dAdd h a b S P X → match rdM S.W a, rdM S.W b with
    | some l, some m => l.length + m.length ≤ sizeLine ∧ newL h (l ++ m) S P X
    | _, _ => False) → rAddAll K x y H Q := fun g => gen fun P X hh => by
      have := g P X hh
      split at this
      · rename_i l m e1 e2
        exact ⟨l, m, e1, e2, this⟩
      · exact this.elim
  cases a with
  | int i =>
    cases b with
    | int j =>
      simp only [Rep] at ra rb
      exact .inl ⟨i, j, ra, rb, Run.ret R q (fun _ _ h => h) (by simp only [Rep])⟩
    | _ => exact gen2 fun P X hh => hh
  | str i =>
    cases b with
    | str j =>
      simp only [Rep] at ra rb
      obtain ⟨P, Xx, h1, h2, h3⟩ := q
      exact .inr (.inl ⟨i, j, ra, rb, h1.1, Run.fin h2 h1.2 R (by simp only [Rep])⟩)
    | _ => exact gen2 fun P X hh => hh
  | tup l =>
    cases b with
    | tup m =>
      have ra0 := ra
      simp only [Rep] at ra rb
      obtain ⟨P, Xx, ⟨h0, hz, h1⟩, h2, h3⟩ := q
      obtain ⟨p, xs, rfl, hx, rx⟩ := ra
      obtain ⟨p2, ys, rfl, hy, ry⟩ := rb
      refine .inr (.inr (.inl ⟨p, p2, xs, ys, rfl, rfl, R.w.sqT hx, R.w.sqT hy, fun z => h0 ?_, by rw [rx.length, ry.length]; exact hz, fun z => ?_, fun _ z hz => newT_ok R h1 h2 (rx.append ry) hz⟩))
      · have := rx.length
        rw [z] at this
        exact List.length_eq_zero_iff.mp this.symm
      · have e : m = [] := by
          have := ry.length
          rw [z] at this
          exact List.length_eq_zero_iff.mp this.symm
        subst e
        rw [List.append_nil] at h1
        exact Run.fin h2 h1 R ra0
    | _ => exact gen2 fun P X hh => hh
  | _ => exact gen2 fun P X hh => hh

/-! ### == and in -/
theorem op_eqP {X : Cx} (hu : X.A.units + 64 < cLine) : OpR X (compareOp .Eq) (fun x y H Q => ∃ d e, Dp X.K H x d ∧ Dp X.K H y e ∧ d.plain = true ∧ e.plain = true ∧ d.depth ≤ 60 ∧ Q (.bl (PyData.eqv d e)) H) := by
  intro pins s σ H x y v u Q I rx ry h
  obtain ⟨d, e, hd, he, sd, se, hz, q⟩ := h
  obtain ⟨as, r1⟩ := Dp.reads I d x v hd rx
  obtain ⟨bs, r2⟩ := Dp.reads I e y u he ry
  exact SeqAt.eq_plain r1 r2 sd se (by omega) ⟨.bl _, H, I, rfl, q⟩
theorem op_neP {X : Cx} (hu : X.A.units + 64 < cLine) : OpR X (compareOp .NotEq) (fun x y H Q => ∃ d e, Dp X.K H x d ∧ Dp X.K H y e ∧ d.plain = true ∧ e.plain = true ∧ d.depth ≤ 60 ∧ Q (.bl (!PyData.eqv d e)) H) := by
  intro pins s σ H x y v u Q I rx ry h
  obtain ⟨d, e, hd, he, sd, se, hz, q⟩ := h
  obtain ⟨as, r1⟩ := Dp.reads I d x v hd rx
  obtain ⟨bs, r2⟩ := Dp.reads I e y u he ry
  exact SeqAt.ne_plain r1 r2 sd se (by omega) ⟨.bl _, H, I, rfl, q⟩
def dEq : Dop := fun a b S P _ => (vw S.W a).lay 60 = true ∧ (vw S.W b).lay 60 = true ∧ P (.bl ((vw S.W a).eq (vw S.W b))) S
def dNe : Dop := fun a b S P _ => (vw S.W a).lay 60 = true ∧ (vw S.W b).lay 60 = true ∧ P (.bl (!(vw S.W a).eq (vw S.W b))) S
theorem opa_eq : OpA K WE (fun x y H Q => ∃ d e, Dp K H x d ∧ Dp K H y e ∧ d.plain = true ∧ e.plain = true ∧ d.depth ≤ 60 ∧ Q (.bl (PyData.eqv d e)) H) dEq := by
  intro B φ S σ H a b x y Q R ra rb q
  obtain ⟨P, Xx, ⟨la, lb, h1⟩, h2, h3⟩ := q
  obtain ⟨xa, ea, pa, za⟩ := D.py_lay 60 _ la
  obtain ⟨xb, eb, pb, zb⟩ := D.py_lay 60 _ lb
  refine ⟨xa, xb, vw_dp R.w ra ea, vw_dp R.w rb eb, pa, pb, za, Run.fin h2 h1 R ?_⟩
  rw [D.eq_py _ _ _ _ ea eb]
  simp only [Rep]
theorem opa_ne : OpA K WE (fun x y H Q => ∃ d e, Dp K H x d ∧ Dp K H y e ∧ d.plain = true ∧ e.plain = true ∧ d.depth ≤ 60 ∧ Q (.bl (!PyData.eqv d e)) H) dNe := by
  intro B φ S σ H a b x y Q R ra rb q
  obtain ⟨P, Xx, ⟨la, lb, h1⟩, h2, h3⟩ := q
  obtain ⟨xa, ea, pa, za⟩ := D.py_lay 60 _ la
  obtain ⟨xb, eb, pb, zb⟩ := D.py_lay 60 _ lb
  refine ⟨xa, xb, vw_dp R.w ra ea, vw_dp R.w rb eb, pa, pb, za, Run.fin h2 h1 R ?_⟩
  rw [D.eq_py _ _ _ _ ea eb]
  simp only [Rep]
/-- x in c: a list, a tuple (of data), a dict's keys, one sign in a text -/
def valD : List Key → List D → Key → Option D
  | k0 :: ks, d :: l, k => if k0 = k then some d else valD ks l k
  | _, _, _ => none
def toKey : D → Option Key
  | .int i => some (.inl i)
  | .str s => some (.inr s)
  | _ => none
def rdD (W : Wd) : D → Option (List Key × List D)
  | .dct ks l => some (ks, l)
  | .hnd n => match W[n]? with
    | some (.dct ks l) => some (ks, l)
    | some (.lck _ kvs l) => some (kvs.map (·.1), l)
    | _ => none
  | _ => none
theorem rdD_ok {B H : Hp} {φ : List Addr} {W : Wd} (R : RelW K B φ W H) {d : D} {v : V} {ks : List Key} {l : List D} (h : Rep K B φ d v) (e : rdD W d = some (ks, l)) :
    ∃ p kvs, v = .ref p ∧ Rd H p (.dK kvs) ∧ kvs.map (·.1) = ks ∧ Reps K B φ l (kvs.map (·.2)) := by
  cases d with
  | dct ks l =>
    simp only [rdD, Option.some.injEq, Prod.mk.injEq] at e
    obtain ⟨rfl, rfl⟩ := e
    simp only [Rep] at h
    obtain ⟨p, kvs, h1, h2, h3, h4⟩ := h
    exact ⟨p, kvs, h1, R.sub.rd h2, h3, h4⟩
  | hnd n =>
    simp only [rdD] at e
    split at e
    · rename_i ks' l' hl
      cases e
      obtain ⟨a, ha, kvs, hx, hk, hr⟩ := R.get hl
      simp only [Rep] at h
      obtain ⟨a', ha', rfl⟩ := h
      rw [ha] at ha'; cases ha'
      exact ⟨a, kvs, rfl, .inl hx, hk, hr⟩
    · rename_i od kvs l' hl
      cases e
      obtain ⟨a, ha, hx, hr⟩ := R.get hl
      simp only [Rep] at h
      obtain ⟨a', ha', rfl⟩ := h
      rw [ha] at ha'; cases ha'
      exact ⟨a, kvs, rfl, .inr ⟨od, hx⟩, rfl, hr⟩
    · cases e
  | _ => simp [rdD] at e
theorem toKey_ok {B : Hp} {φ : List Addr} {d : D} {v : V} {k : Key} (h : Rep K B φ d v) (e : toKey d = some k) : v = kV k := by
  cases d with
  | int i => simp only [toKey, Option.some.injEq] at e; subst e; simp only [Rep] at h; exact h
  | str i => simp only [toKey, Option.some.injEq] at e; subst e; simp only [Rep] at h; exact h
  | _ => simp [toKey] at e
theorem valV_val {B : Hp} {φ : List Addr} : ∀ {kvs : List (Key × V)} {l : List D} (k : Key), Reps K B φ l (kvs.map (·.2)) →
    (valD (kvs.map (·.1)) l k = none ∧ valV kvs k = none) ∨ ∃ d v, valD (kvs.map (·.1)) l k = some d ∧ valV kvs k = some v ∧ Rep K B φ d v
  | [], l, k, h => .inl ⟨by simp [valD], by simp [valV]⟩
  | (k0, v0) :: kvs, [], k, h => by simp [Reps] at h
  | (k0, v0) :: kvs, d :: l, k, h => by
    obtain ⟨x, r, e, h1, t⟩ := h.cons_inv
    simp only [List.map_cons, List.cons.injEq] at e
    obtain ⟨rfl, rfl⟩ := e
    by_cases hk : k0 = k
    · subst hk
      exact .inr ⟨d, v0, by simp [valD], by simp [valV], h1⟩
    · have e1 : valV ((k0, v0) :: kvs) k = valV kvs k := by simp [valV, hk]
      have e2 : valD (List.map (·.1) ((k0, v0) :: kvs)) (d :: l) k = valD (kvs.map (·.1)) l k := by simp [valD, hk]
      rw [e1, e2]
      exact valV_val k t
theorem op_inSeq {X : Cx} (hu : X.A.units + 64 < cLine) (neg : Bool) : OpR X (compareOp (if neg then .NotIn else .In)) (fun x y H Q => ∃ d ds p xs, y = .ref p ∧ Dp X.K H x d ∧ (SqL X.K H p xs ∨ SqT X.K H p xs) ∧ DpAll X.K H xs ds ∧ d.plain = true ∧ PyData.plainAll ds = true ∧ d.depth ≤ 60 ∧
    Q (.bl (if neg then !ds.any fun z => PyData.eqv z d else ds.any fun z => PyData.eqv z d)) H) := by
  intro pins s σ H x y v u Q I rx ry h
  obtain ⟨d, ds, p, xs, rfl, hd, hp, ha, sd, se, hz, q⟩ := h
  obtain ⟨as, r1⟩ := Dp.reads I d x v hd rx
  rcases hp with hp | hp
  · obtain ⟨bs, r2⟩ := Dp.reads I (.list ds) (.ref p) u (.lst hp ha) ry
    cases neg with
    | true => exact SeqAt.notIn_list_data r2 r1 se sd (by omega) ⟨.bl _, H, I, rfl, q⟩
    | false => exact SeqAt.in_list_data r2 r1 se sd (by omega) ⟨.bl _, H, I, rfl, q⟩
  · obtain ⟨bs, r2⟩ := Dp.reads I (.tuple ds) (.ref p) u (.tup hp ha) ry
    cases neg with
    | true => exact SeqAt.notIn_tuple_data r2 r1 se sd (by omega) ⟨.bl _, H, I, rfl, q⟩
    | false => exact SeqAt.in_tuple_data r2 r1 se sd (by omega) ⟨.bl _, H, I, rfl, q⟩
theorem op_inDict {X : Cx} (hu : X.A.units + 64 < cLine) (neg : Bool) : OpR X (compareOp (if neg then .NotIn else .In)) (fun x y H Q => ∃ a o, y = .ref a ∧ DGet H a x o ∧ Q (.bl (if neg then !o.isSome else o.isSome)) H) := by
  intro pins s σ H x y v u Q I rx ry h
  obtain ⟨a, o, rfl, g, q⟩ := h
  obtain rfl : u = Value.ref a := ry
  cases neg with
  | true => exact d_notIn (by omega) I g rx fun s3 I3 => ⟨.bl _, H, I3, rfl, q⟩
  | false => exact d_in (by omega) I g rx fun s3 I3 => ⟨.bl _, H, I3, rfl, q⟩
theorem op_inSign {X : Cx} (neg : Bool) : OpR X (compareOp (if neg then .NotIn else .In)) (fun x y H Q => ∃ (c : Nat) (z : Str), x = .str ⟨#[c]⟩ ∧ y = .str z ∧ Q (.bl (if neg then !decide (c ∈ z.cps.toList) else decide (c ∈ z.cps.toList))) H) := by
  cases neg with
  | true => exact op_notIn_sign
  | false => exact op_in_sign
def rInAll (K : PySem.W.Frag) (neg : Bool) : R2 := fun x y H Q =>
  (∃ d ds p xs, y = .ref p ∧ Dp K H x d ∧ (SqL K H p xs ∨ SqT K H p xs) ∧ DpAll K H xs ds ∧ d.plain = true ∧ PyData.plainAll ds = true ∧ d.depth ≤ 60 ∧ Q (.bl (if neg then !ds.any fun z => PyData.eqv z d else ds.any fun z => PyData.eqv z d)) H) ∨
  (∃ a o, y = .ref a ∧ DGet H a x o ∧ Q (.bl (if neg then !o.isSome else o.isSome)) H) ∨ ∃ (c : Nat) (z : Str), x = .str ⟨#[c]⟩ ∧ y = .str z ∧ Q (.bl (if neg then !decide (c ∈ z.cps.toList) else decide (c ∈ z.cps.toList))) H
theorem op_inAll {X : Cx} (hu : X.A.units + 64 < cLine) (neg : Bool) : OpR X (compareOp (if neg then .NotIn else .In)) (rInAll X.K neg) := OpR.or (op_inSeq hu neg) (OpR.or (op_inDict hu neg) (op_inSign neg))
def negb (neg b : Bool) : Bool := if neg then !b else b
def dIn (neg : Bool) : Dop := fun a b S P _ => match b with
  | .str z => (match a with
    | .str x => (match x.cps.toList with
      | [c] => P (.bl (negb neg (decide (c ∈ z.cps.toList)))) S
      | _ => False)
    | _ => False)
  | b => match rdD S.W b with
    | some (ks, l) => (match toKey a with
      | some k => P (.bl (negb neg (valD ks l k).isSome)) S
      | none => False)
    | none => match rdS S.W b with
      | some l => (vw S.W a).lay 60 = true ∧ D.lays 60 l = true ∧ P (.bl (negb neg (l.any fun z => z.eq (vw S.W a)))) S
      | none => False
theorem any_py (d : D) (x : PyData) (e : d.py = some x) : ∀ (l : List D) (xs : List PyData), D.pys l = some xs → (xs.any fun z => PyData.eqv z x) = l.any fun z => z.eq d
  | [], xs, h => by simp only [D.pys, Option.some.injEq] at h; subst h; rfl
  | z :: l, xs, h => by
    simp only [D.pys] at h
    split at h
    · rename_i y ys h1 h2
      cases h
      rw [List.any_cons, List.any_cons, D.eq_py z d y x h1 e, any_py d x e l ys h2]
    · cases h
theorem opa_in (neg : Bool) : OpA K WE (rInAll K neg) (dIn neg) := by
  intro B φ S σ H a b x y Q R ra rb q
  have gen : (∀ P X, dIn neg a b S P X → match rdD S.W b with
    | some (ks, l) => (match toKey a with
      | some k => P (.bl (negb neg (valD ks l k).isSome)) S
      | none => False)
    | none => match rdS S.W b with
      | some l => (vw S.W a).lay 60 = true ∧ D.lays 60 l = true ∧ P (.bl (negb neg (l.any fun z => z.eq (vw S.W a)))) S
      | none => False) → rInAll K neg x y H Q := fun g => by
    obtain ⟨P, Xx, h1, h2, h3⟩ := q
    have h1 := g P Xx h1
    split at h1
    · rename_i ks l e1
      split at h1
      · rename_i k e2
        obtain ⟨p, kvs, rfl, hd, rfl, hr⟩ := rdD_ok R.w rb e1
        obtain rfl := toKey_ok ra e2
        refine .inr (.inl ⟨p, valV kvs k, rfl, .inl ⟨kvs, k, hd, rfl, rfl⟩, ?_⟩)
        refine Run.fin h2 h1 R ?_
        rcases valV_val k hr with ⟨v1, v2⟩ | ⟨d, v, v1, v2, _⟩ <;> (rw [v1, v2]; simp only [Rep, negb, Option.isSome])
      · exact h1.elim
    · split at h1
      · rename_i l e2
        obtain ⟨la, lb, h1⟩ := h1
        obtain ⟨p, xs, rfl, hp, hr⟩ := rdS_ok R.w rb e2
        obtain ⟨xa, ea, pa, za⟩ := D.py_lay 60 _ la
        obtain ⟨xb, eb, pb, zb⟩ := D.pys_lay 60 _ lb
        refine .inl ⟨xa, xb, p, xs, rfl, vw_dp R.w ra ea, hp, Reps.dp R.w l xs xb hr eb, pa, pb, za, ?_⟩
        refine Run.fin h2 h1 R ?_
        rw [any_py _ _ ea _ _ eb]
        simp only [Rep, negb]
      · exact h1.elim
  cases b with
  | str z =>
    obtain ⟨P, Xx, h1, h2, h3⟩ := q
    cases a with
    | str s =>
      have h1' : match s.cps.toList with
        | [c] => P (.bl (negb neg (decide (c ∈ z.cps.toList)))) S
        | _ => False := h1
      split at h1'
      · rename_i c ec
        simp only [Rep] at ra rb
        obtain ⟨⟨cs⟩⟩ := s
        simp only at ec
        subst ec
        exact .inr (.inr ⟨c, z, ra, rb, Run.fin h2 h1' R (by simp only [Rep, negb])⟩)
      · exact h1'.elim
    | _ => exact False.elim h1
  | _ => exact gen fun P X hh => hh
/-- x is None -/
def isNon : D → Bool
  | .non => true
  | _ => false
def dIs (neg : Bool) : Dop := fun a b S P _ => match b with
  | .non => P (.bl (negb neg (isNon a))) S
  | _ => False
theorem rep_non {B : Hp} {φ : List Addr} {d : D} {v : V} (h : Rep K B φ d v) : decide (v = .non) = isNon d := by
  cases d <;> simp only [isNon] <;> simp only [Rep] at h <;> first
    | (subst h; simp)
    | (obtain ⟨_, _, rfl, _⟩ := h; simp)
    | (obtain ⟨_, _, rfl⟩ := h; simp)
theorem opa_isN : OpA K WE (fun x y H Q => y = .non ∧ Q (.bl (decide (x = .non))) H) (dIs false) := by
  intro B φ S σ H a b x y Q R ra rb q
  obtain ⟨P, Xx, h1, h2, h3⟩ := q
  cases b with
  | non =>
    have rb0 := rb
    simp only [Rep] at rb0
    refine ⟨rb0, ?_⟩
    rw [rep_non ra]
    exact Run.fin h2 h1 R (by simp only [Rep]; rfl)
  | _ => exact h1.elim
theorem opa_notN : OpA K WE (fun x y H Q => y = .non ∧ Q (.bl (!decide (x = .non))) H) (dIs true) := by
  intro B φ S σ H a b x y Q R ra rb q
  obtain ⟨P, Xx, h1, h2, h3⟩ := q
  cases b with
  | non =>
    have rb0 := rb
    simp only [Rep] at rb0
    refine ⟨rb0, ?_⟩
    rw [rep_non ra]
    exact Run.fin h2 h1 R (by simp only [Rep]; rfl)
  | _ => exact h1.elim

/-! ### a[i] -/
def ixL (l : List D) (b : D) (k : D → Prop) : Prop := match b with
  | .int i => (match atI l i with
    | some d => k d
    | none => False)
  | _ => False
theorem ixL_inv {l : List D} {b : D} {k : D → Prop} (h : ixL l b k) : ∃ i d, b = .int i ∧ atI l i = some d ∧ k d := by
  unfold ixL at h
  split at h
  · split at h
    · rename_i i _ d e
      exact ⟨i, d, rfl, e, h⟩
    · exact h.elim
  · exact h.elim
def dIx : Dop := fun a b S P _ => match a, b with
  | .str z, .int i => (match atI z.cps.toList i with
    | some c => z.length ≤ sizeLine ∧ P (.str ⟨#[c]⟩) S
    | none => False)
  | a, b => match rdD S.W a with
    | some (ks, l) => (match toKey b with
      | some k => (match valD ks l k with
        | some d => P d S
        | none => False)
      | none => False)
    | none => match rdS S.W a with
      | some l => ixL l b fun d => P d S
      | none => False
theorem ix_dict {X : Cx} (hu : X.A.units + 64 < cLine) : IxR X (fun x y H Q => ∃ a v, x = .ref a ∧ DGet H a y (some v) ∧ Q v H) := by
  intro value slice pins s σ H x y v u Q I rx ry h hs
  obtain ⟨a, w, rfl, g, q⟩ := h
  obtain rfl : v = Value.ref a := rx
  exact tail_any (dict_typeIs I g) PySem.F.slot_dict_getitem.lookup (d_getItem (by omega) I g ry fun w' s3 I3 rw' => ⟨w, H, I3, rw', q⟩) hs
def rIxAll (K : PySem.W.Frag) : R2 := fun x y H Q => (∃ a v, x = .ref a ∧ DGet H a y (some v) ∧ Q v H) ∨ rIx K x y H Q
theorem ix_all {X : Cx} (hu : X.A.units + 64 < cLine) : IxR X (rIxAll X.K) := IxR.or (ix_dict hu) ix_seq
theorem atI_rep {B : Hp} {φ : List Addr} {l : List D} {xs : List V} {i : Int} {d : D} (r : Reps K B φ l xs) (h : atI l i = some d) : ∃ v, atI xs i = some v ∧ Rep K B φ d v := by
  unfold atI at h ⊢
  rw [r.length]
  cases e : ixN l.length i with
  | none => rw [e] at h; cases h
  | some j =>
    rw [e] at h
    exact r.get h
theorem opa_ix : OpA K WE (rIxAll K) dIx := by
  intro B φ S σ H a b x y Q R ra rb q
  have gen : (∀ P X, dIx a b S P X → match rdD S.W a with
    | some (ks, l) => (match toKey b with
      | some k => (match valD ks l k with
        | some d => P d S
        | none => False)
      | none => False)
    | none => match rdS S.W a with
      | some l => ixL l b fun d => P d S
      | none => False) → rIxAll K x y H Q := fun g => by
    obtain ⟨P, Xx, h1, h2, h3⟩ := q
    have h1 := g P Xx h1
    split at h1
    · rename_i ks l e1
      split at h1
      · rename_i k e2
        split at h1
        · rename_i d e3
          obtain ⟨p, kvs, rfl, hd, rfl, hr⟩ := rdD_ok R.w ra e1
          obtain rfl := toKey_ok rb e2
          rcases valV_val k hr with ⟨v1, v2⟩ | ⟨d', v, v1, v2, r⟩
          · rw [v1] at e3; cases e3
          · rw [v1] at e3; cases e3
            exact .inl ⟨p, v, rfl, .inl ⟨kvs, k, hd, rfl, v2.symm⟩, Run.fin h2 h1 R r⟩
        · exact h1.elim
      · exact h1.elim
    · split at h1
      · rename_i l e2
        obtain ⟨i, d, rfl, e3, h1⟩ := ixL_inv h1
        obtain ⟨p, xs, rfl, hp, hr⟩ := rdS_ok R.w ra e2
        obtain ⟨v, ev, rv⟩ := atI_rep hr e3
        simp only [Rep] at rb
        rcases hp with hp | hp
        · exact .inr (.inl ⟨p, xs, i, v, rfl, rb, hp, ev, Run.fin h2 h1 R rv⟩)
        · exact .inr (.inr (.inl ⟨p, xs, i, v, rfl, rb, hp, ev, Run.fin h2 h1 R rv⟩))
      · exact h1.elim
  cases a with
  | str z =>
    cases b with
    | int i =>
      obtain ⟨P, Xx, h1, h2, h3⟩ := q
      have h1' : match atI z.cps.toList i with
        | some c => z.length ≤ sizeLine ∧ P (.str ⟨#[c]⟩) S
        | none => False := h1
      split at h1'
      · rename_i c ec
        simp only [Rep] at ra rb
        exact .inr (.inr (.inr ⟨z, i, c, ra, rb, h1'.1, ec, Run.fin h2 h1'.2 R (by simp only [Rep])⟩))
      · exact h1'.elim
    | _ => exact gen fun P X hh => hh
  | _ => exact gen fun P X hh => hh
theorem de_ix {X : Cx} {a b : Expr} {fa fb : M D} {pos : Pos} (hu : X.A.units + 64 < cLine) (ha : PE X a (tE X.K WE fa)) (hb : PE X b (tE X.K WE fb)) (hs : PlainIx b := by exact fun _ _ => rfl) : PE X (.Subscript a b pos) (tE X.K WE (mBin dIx fa fb)) :=
  PE.weak (pe_ix (ix_all hu) ha hb hs) fun σ H Q h => tOp_of opa_ix σ H Q h
end
end Tw

set_option Elab.async false
set_option linter.all false
set_option maxRecDepth 100000
set_option maxHeartbeats 4000000
namespace Tw
open PySem PySem.Spec PyProof.Rows L2

/-! ### expressions -/
section
variable {X : Cx} {WE : WX} {a b c : Expr} {fa fb fc : M D} {pos : Pos}
def mVar (i : Nat) : M D := fun S P _ => match S.σ[i]? with
  | some (some d) => P d S
  | _ => False
def mC (d : D) : M D := fun S P _ => P d S
theorem tVar_of {K : PySem.W.Frag} {i : Nat} (σ : L2.St) (H : Hp) (Q : VK) (h : tE K WE (mVar i) σ H Q) : tVar i σ H Q := by
  obtain ⟨B, φ, S, R, P, Xx, h1, h2, h3⟩ := h
  have h1' : match S.σ[i]? with
    | some (some d) => P d S
    | _ => False := h1
  split at h1'
  · rename_i d e
    obtain ⟨v, hv, rv⟩ := R.slot i d e
    exact ⟨v, hv, Run.fin h2 h1' R rv⟩
  · exact h1'.elim
theorem tC_of {K : PySem.W.Frag} {d : D} {v : V} (hr : ∀ B φ, Rep K B φ d v) (σ : L2.St) (H : Hp) (Q : VK) (h : tE K WE (mC d) σ H Q) : tC v σ H Q := by
  obtain ⟨B, φ, S, R, P, Xx, h1, h2, h3⟩ := h
  exact Run.fin h2 (show P d S from h1) R (hr B φ)
theorem dv (i : Nat) {x : Str} {pos : Pos} (hN : X.N[i]? = some x := by rfl) (hv : Vis X.env.scope x := by first | exact Or.inl rfl | exact Or.inr (Or.inl rfl) | exact Or.inr (Or.inr rfl)) (hd : (x == ("__debug__" : Str)) = false := by decide)
    (hcd : (x == ("__classdict__" : Str)) = false := by decide) : PE X (.Name x pos) (tE X.K WE (mVar i)) := PE.weak (pe_var hN hv hd hcd) fun σ H Q h => tVar_of σ H Q h
theorem d_int {i j} : PE X (.Constant (.int i) j pos) (tE X.K WE (mC (.int i))) := PE.weak pe_int fun σ H Q h => tC_of (fun _ _ => by simp only [Rep]) σ H Q h
theorem d_bl {i j} : PE X (.Constant (.bool i) j pos) (tE X.K WE (mC (.bl i))) := PE.weak pe_bl fun σ H Q h => tC_of (fun _ _ => by simp only [Rep]) σ H Q h
theorem d_str {i j} : PE X (.Constant (.str i) j pos) (tE X.K WE (mC (.str i))) := PE.weak pe_str fun σ H Q h => tC_of (fun _ _ => by simp only [Rep]) σ H Q h
theorem d_non {j} : PE X (.Constant .none j pos) (tE X.K WE (mC .non)) := PE.weak pe_non fun σ H Q h => tC_of (fun _ _ => by simp only [Rep]) σ H Q h
theorem d_glob {x : Str} {d : D} {v : V} {u : Value} (hg : Gl X x) (hm : X.mg x = some u) (r : RelV v u) (hr : ∀ B φ, Rep X.K B φ d v) (hd : (x == ("__debug__" : Str)) = false := by decide) : PE X (.Name x pos) (tE X.K WE (mC d)) :=
  PE.weak (pe_glob hg hm r hd) fun σ H Q h => tC_of hr σ H Q h
theorem d_globI {x : Str} {i : Int} {t : Tok} (hm : X.mg x = some (.int i t)) (hg : Gl X x := by rfl) (hd : (x == ("__debug__" : Str)) = false := by decide) : PE X (.Name x pos) (tE X.K WE (mC (.int i))) := d_glob (v := .int i) hg hm ⟨t, rfl⟩ (fun _ _ => by simp only [Rep]) hd
theorem d_globS {x : Str} {i : Str} {t : Tok} (hm : X.mg x = some (.str i t)) (hg : Gl X x := by rfl) (hd : (x == ("__debug__" : Str)) = false := by decide) : PE X (.Name x pos) (tE X.K WE (mC (.str i))) := d_glob (v := .str i) hg hm ⟨t, rfl⟩ (fun _ _ => by simp only [Rep]) hd
theorem d_type {x : Str} {n : String} (hm : X.mg x = none) (hv : bootBuiltins x = some (.type n)) (hg : Gl X x := by rfl) (hn : x ≠ "__name__" := by decide) (hd : (x == ("__debug__" : Str)) = false := by decide) : PE X (.Name x pos) (tE X.K WE (mC (.ty n))) :=
  PE.weak (pe_bltn (v := .ty n) hg hm hv rfl hn hd) fun σ H Q h => tC_of (fun _ _ => by simp only [Rep]) σ H Q h
/-- arguments -/
def mNil : M (List D) := fun S P _ => P [] S
def mCons (f : M D) (g : M (List D)) : M (List D) := M.bind f fun d => M.bind g fun l => M.pure (d :: l)
theorem da_nil : PA X [] (tA X.K WE mNil) := PA.weak pa_nil fun σ H Q ⟨B, φ, S, R, P, Xx, h1, h2, h3⟩ => Run.fin h2 (show P [] S from h1) R Reps.nil
theorem da_cons {es : List Expr} {ga : M (List D)} (ha : PE X a (tE X.K WE fa)) (hr : PA X es (tA X.K WE ga)) (hs : starEach (a :: es) X.env = (false, eval a X.env) :: starEach es X.env := by rfl) : PA X (a :: es) (tA X.K WE (mCons fa ga)) :=
  PA.weak (pa_cons ha hr hs) fun σ H Q h => by
    obtain ⟨B, φ, S, R, run⟩ := h
    refine ⟨B, φ, S, R, run.bind.imp ?_⟩
    rintro x H1 ⟨d, B1, φ1, S1, e1, R1, r1, run1⟩
    refine ⟨B1, φ1, S1, R1, run1.bind.imp ?_⟩
    rintro xs H2 ⟨l, B2, φ2, S2, e2, R2, r2, P, Xx, h1, h2, h3⟩
    exact Run.fin h2 (show P (d :: l) S2 from h1) R2 (Reps.cons (r1.mono e2 _ _) r2)
def mTup (f : M (List D)) : M D := M.bind f fun l S P _ => l.length ≤ sizeLine ∧ P (.tup l) S
theorem de_tup {es : List Expr} {ga : M (List D)} {x1} (h : PA X es (tA X.K WE ga)) : PE X (.Tuple es x1 pos) (tE X.K WE (mTup ga)) :=
  PE.weak (pe_tup h) fun σ H Q h => by
    obtain ⟨B, φ, S, R, run⟩ := h
    refine ⟨B, φ, S, R, run.bind.imp ?_⟩
    rintro xs H1 ⟨l, B1, φ1, S1, e1, R1, r1, P, Xx, ⟨hz, h1⟩, h2, h3⟩
    exact ⟨by rw [r1.length]; exact hz, fun p hp => newT_ok R1 h1 h2 r1 hp⟩
def mLst (h : Bool) (f : M (List D)) : M D := M.bind f fun l S P X => l.length ≤ sizeLine ∧ newL h l S P X
theorem de_lst {hh : Bool} {es : List Expr} {ga : M (List D)} (h : PA X es (tA X.K WE ga)) : PE X (.List es pos) (tE X.K WE (mLst hh ga)) :=
  PE.weak (pe_lst h) fun σ H Q h => by
    obtain ⟨B, φ, S, R, run⟩ := h
    refine ⟨B, φ, S, R, run.bind.imp ?_⟩
    rintro xs H1 ⟨l, B1, φ1, S1, e1, R1, r1, P, Xx, ⟨hz, h1⟩, h2, h3⟩
    exact ⟨by rw [r1.length]; exact hz, fun p hp => newL_ok (WE := WE) R1 ⟨P, Xx, h1, h2, h3⟩ r1 hp⟩
/-- unary minus -/
def dNeg (d : D) : M D := fun S P _ => match d with
  | .int i => P (.int (-i)) S
  | _ => False
theorem de_neg (ha : PE X a (tE X.K WE fa)) : PE X (.UnaryOp .USub a pos) (tE X.K WE (M.bind fa dNeg)) :=
  PE.weak (pe_un un_neg ha) fun σ H Q h => by
    obtain ⟨B, φ, S, R, run⟩ := h
    refine ⟨B, φ, S, R, run.bind.imp ?_⟩
    rintro x H1 ⟨d, B1, φ1, S1, e1, R1, r1, P, Xx, h1, h2, h3⟩
    cases d with
    | int i =>
      simp only [Rep] at r1
      exact ⟨i, r1, Run.fin h2 h1 R1 (by simp only [Rep])⟩
    | _ => exact False.elim h1
/-- slices -/
def mNoPart : M (Option Int) := fun S P _ => P none S
def mPart (f : M D) : M (Option Int) := M.bind f fun d S P _ => match d with
  | .int i => P (some i) S
  | _ => False
theorem do_none : PO X none (tO X.K WE mNoPart) := by
  have h := po_none (X := X)
  exact ⟨fun pins s σ H Q I hq => h.run pins s σ H Q I (by
    obtain ⟨B, φ, S, R, P, Xx, h1, h2, h3⟩ := hq
    exact Run.fin h2 (show P none S from h1) R rfl)⟩
theorem do_some (ha : PE X a (tE X.K WE fa)) : PO X (some a) (tO X.K WE (mPart fa)) := by
  have h := po_some ha
  exact ⟨fun pins s σ H Q I hq => h.run pins s σ H Q I (by
    obtain ⟨B, φ, S, R, run⟩ := hq
    refine ⟨B, φ, S, R, run.bind.imp ?_⟩
    rintro x H1 ⟨d, B1, φ1, S1, e1, R1, r1, P, Xx, h1, h2, h3⟩
    cases d with
    | int i =>
      simp only [Rep] at r1
      exact ⟨i, r1, Run.fin h2 h1 R1 rfl⟩
    | _ => exact False.elim h1)⟩
def cutD (l : List D) (lo hi : Option Int) : List D := (l.drop (HT.sIx l.length 0 lo)).take (HT.sIx l.length l.length hi - HT.sIx l.length 0 lo)
def dSl (h : Bool) (d : D) (lo hi : Option Int) : M D := fun S P X => match d with
  | .str z => z.length ≤ sizeLine ∧ P (.str (cutS z lo hi)) S
  | .tup l => ¬ (HT.sIx l.length 0 lo = 0 ∧ HT.sIx l.length l.length hi = l.length) ∧ P (.tup (cutD l lo hi)) S
  | d => match rdL S.W d with
    | some l => newL h (cutD l lo hi) S P X
    | none => False
theorem cut_rep {K : PySem.W.Frag} {B : Hp} {φ : List Addr} {l : List D} {xs : List V} {lo hi : Option Int} (r : Reps K B φ l xs) : Reps K B φ (cutD l lo hi) (cutV xs lo hi) := by
  unfold cutD cutV
  rw [r.length]
  exact (r.drop _).take _
def mSl (h : Bool) (fa : M D) (lo hi : M (Option Int)) : M D := M.bind fa fun d => M.bind lo fun l => M.bind hi fun u => dSl h d l u
def rSlAll (K : PySem.W.Frag) : V → Option Int → Option Int → Hp → VK → Prop := fun x lo hi H Q => rSlS x lo hi H Q ∨ rSlT K x lo hi H Q ∨ rSlL K x lo hi H Q
theorem sl_all : SlR X (rSlAll X.K) := SlR.or sl_str (SlR.or sl_tup sl_list)
theorem sl_ok {K : PySem.W.Frag} {h : Bool} {d : D} {x : V} {lo hi : Option Int} {B : Hp} {φ : List Addr} {S : AS} {σ : L2.St} {H : Hp} {Q : VK} (R : Rel K B φ S σ H) (r : Rep K B φ d x) (q : RRun K WE (dSl h d lo hi) B φ S σ H Q) : rSlAll K x lo hi H Q := by
  obtain ⟨P, Xx, h1, h2, h3⟩ := q
  have gen : (match rdL S.W d with
    | some l => newL h (cutD l lo hi) S P Xx
    | none => False) → rSlAll K x lo hi H Q := fun g => by
    split at g
    · rename_i l e
      obtain ⟨p, xs, rfl, hp, hr⟩ := rdL_ok R.w r e
      exact .inr (.inr ⟨p, xs, rfl, hp, fun z hz => newL_ok (WE := WE) R ⟨P, Xx, g, h2, h3⟩ (cut_rep hr) hz⟩)
    · exact g.elim
  cases d with
  | str z =>
    simp only [Rep] at r
    exact .inl ⟨z, r, h1.1, Run.fin h2 h1.2 R (by simp only [Rep])⟩
  | tup l =>
    simp only [Rep] at r
    obtain ⟨p, xs, rfl, hp, hr⟩ := r
    exact .inr (.inl ⟨p, xs, rfl, R.w.sqT hp, by rw [hr.length]; exact h1.1, fun z hz => newT_ok R h1.2 h2 (cut_rep hr) hz⟩)
  | _ => exact gen h1
theorem de_sl {hh : Bool} {lo hi : Option Expr} {fl fh : M (Option Int)} {p2 : Pos} (ha : PE X a (tE X.K WE fa)) (hl : PO X lo (tO X.K WE fl)) (hu : PO X hi (tO X.K WE fh)) : PE X (.Subscript a (.Slice lo hi none p2) pos) (tE X.K WE (mSl hh fa fl fh)) :=
  PE.weak (pe_slice sl_all ha hl hu) fun σ H Q h => by
    obtain ⟨B, φ, S, R, run⟩ := h
    refine ⟨B, φ, S, R, run.bind.imp ?_⟩
    rintro x H1 ⟨d, B1, φ1, S1, e1, R1, r1, run1⟩
    refine ⟨B1, φ1, S1, R1, run1.bind.imp ?_⟩
    rintro l H2 ⟨l', B2, φ2, S2, e2, R2, r2, run2⟩
    refine ⟨B2, φ2, S2, R2, run2.bind.imp ?_⟩
    rintro u H3 ⟨u', B3, φ3, S3, e3, R3, r3, run3⟩
    subst r2; subst r3
    exact sl_ok R3 ((r1.mono e2 _ _).mono e3 _ _) run3

/-! ### tests -/
variable {ta tb : M Bool} {rest : List Expr} {wh : Expr}
def mAnd (f g : M Bool) : M Bool := M.bind f fun t S P X => if t = true then g S P X else P false S
def mOr (f g : M Bool) : M Bool := M.bind f fun t S P X => if t = true then P true S else g S P X
def mNot (f : M Bool) : M Bool := M.bind f fun t => M.pure (!t)
theorem Run.bl {K : PySem.W.Frag} {B : Hp} {φ : List Addr} {S : AS} {σ : L2.St} {H : Hp} {Q : Bool → Hp → Prop} {b : Bool} (R : Rel K B φ S σ H) (q : Run K WE (fun _ _ a b => b = a) (M.pure b) B φ S σ H Q) : Q b H := by
  obtain ⟨P, Xx, h1, h2, h3⟩ := q
  exact Run.fin h2 (show P b S from h1) R rfl
theorem dw_and1 (h : PT X a (tT X.K WE ta)) : PW X (.BoolOp .And [a] pos) (tT X.K WE ta) := pw_and1 h
theorem dw_or1 (h : PT X a (tT X.K WE ta)) : PW X (.BoolOp .Or [a] pos) (tT X.K WE ta) := pw_or1 h
theorem dw_and (h : PT X a (tT X.K WE ta)) (g : PW X (.BoolOp .And (b :: rest) pos) (tT X.K WE tb)) : PW X (.BoolOp .And (a :: b :: rest) pos) (tT X.K WE (mAnd ta tb)) :=
  PW.weak (pw_and h g) fun σ H Q h => by
    obtain ⟨B, φ, S, R, run⟩ := h
    refine ⟨B, φ, S, R, run.bind.imp ?_⟩
    rintro t H1 ⟨t', B1, φ1, S1, e1, R1, rfl, run1⟩
    cases t with
    | true => exact ⟨B1, φ1, S1, R1, run1⟩
    | false => exact Run.bl R1 run1
theorem dw_or (h : PT X a (tT X.K WE ta)) (g : PW X (.BoolOp .Or (b :: rest) pos) (tT X.K WE tb)) : PW X (.BoolOp .Or (a :: b :: rest) pos) (tT X.K WE (mOr ta tb)) :=
  PW.weak (pw_or h g) fun σ H Q h => by
    obtain ⟨B, φ, S, R, run⟩ := h
    refine ⟨B, φ, S, R, run.bind.imp ?_⟩
    rintro t H1 ⟨t', B1, φ1, S1, e1, R1, rfl, run1⟩
    cases t with
    | true => exact Run.bl R1 run1
    | false => exact ⟨B1, φ1, S1, R1, run1⟩
theorem dt_not (h : PT X a (tT X.K WE ta)) : PT X (.UnaryOp .Not a pos) (tT X.K WE (mNot ta)) :=
  PT.weak (pt_not h) fun σ H Q h => by
    obtain ⟨B, φ, S, R, run⟩ := h
    refine ⟨B, φ, S, R, run.bind.imp ?_⟩
    rintro t H1 ⟨t', B1, φ1, S1, e1, R1, rfl, run1⟩
    exact Run.bl R1 run1
/-- .. as values -/
def mAndV (f g : M D) : M D := M.bind f fun d => match d with
  | .bl true => g
  | .bl false => M.pure (.bl false)
  | _ => fun _ _ _ => False
def mOrV (f g : M D) : M D := M.bind f fun d => match d with
  | .bl true => M.pure (.bl true)
  | .bl false => g
  | _ => fun _ _ _ => False
def mNotV (f : M D) : M D := M.bind f fun d => match d with
  | .bl b => M.pure (.bl (!b))
  | _ => fun _ _ _ => False
theorem de_one {op} (h : PE X a (tE X.K WE fa)) : PE X (.BoolOp op [a] pos) (tE X.K WE fa) := pe_one h
theorem de_and (h : PE X a (tE X.K WE fa)) (g : PE X (.BoolOp .And (b :: rest) pos) (tE X.K WE fb)) : PE X (.BoolOp .And (a :: b :: rest) pos) (tE X.K WE (mAndV fa fb)) :=
  PE.weak (pe_and h g) fun σ H Q h => by
    obtain ⟨B, φ, S, R, run⟩ := h
    refine ⟨B, φ, S, R, run.bind.imp ?_⟩
    rintro x H1 ⟨d, B1, φ1, S1, e1, R1, r1, run1⟩
    cases d with
    | bl t =>
      simp only [Rep] at r1
      cases t with
      | true => exact ⟨true, r1, B1, φ1, S1, R1, run1⟩
      | false => exact ⟨false, r1, Run.ret R1 run1 (fun _ _ h => h) (by simp only [Rep])⟩
    | _ => exact run1.elim fun _ h => h.elim fun _ h => h.1.elim
theorem de_or (h : PE X a (tE X.K WE fa)) (g : PE X (.BoolOp .Or (b :: rest) pos) (tE X.K WE fb)) : PE X (.BoolOp .Or (a :: b :: rest) pos) (tE X.K WE (mOrV fa fb)) :=
  PE.weak (pe_or h g) fun σ H Q h => by
    obtain ⟨B, φ, S, R, run⟩ := h
    refine ⟨B, φ, S, R, run.bind.imp ?_⟩
    rintro x H1 ⟨d, B1, φ1, S1, e1, R1, r1, run1⟩
    cases d with
    | bl t =>
      simp only [Rep] at r1
      cases t with
      | true => exact ⟨true, r1, Run.ret R1 run1 (fun _ _ h => h) (by simp only [Rep])⟩
      | false => exact ⟨false, r1, B1, φ1, S1, R1, run1⟩
    | _ => exact run1.elim fun _ h => h.elim fun _ h => h.1.elim
theorem de_not (h : PE X a (tE X.K WE fa)) : PE X (.UnaryOp .Not a pos) (tE X.K WE (mNotV fa)) :=
  PE.weak (pe_not h) fun σ H Q h => by
    obtain ⟨B, φ, S, R, run⟩ := h
    refine ⟨B, φ, S, R, run.bind.imp ?_⟩
    rintro x H1 ⟨d, B1, φ1, S1, e1, R1, r1, run1⟩
    cases d with
    | bl t =>
      simp only [Rep] at r1
      exact ⟨t, r1, Run.ret R1 run1 (fun _ _ h => h) (by simp only [Rep])⟩
    | _ => exact run1.elim fun _ h => h.elim fun _ h => h.1.elim
def mIf (t : M Bool) (f g : M D) : M D := M.bind t fun b S P X => if b = true then f S P X else g S P X
theorem de_if {c : Expr} (hc : PT X c (tT X.K WE ta)) (ha : PE X a (tE X.K WE fa)) (hb : PE X b (tE X.K WE fb)) : PE X (.IfExp c a b pos) (tE X.K WE (mIf ta fa fb)) :=
  PE.weak (pe_ifExp hc ha hb) fun σ H Q h => by
    obtain ⟨B, φ, S, R, run⟩ := h
    refine ⟨B, φ, S, R, run.bind.imp ?_⟩
    rintro t H1 ⟨t', B1, φ1, S1, e1, R1, rfl, run1⟩
    cases t with
    | true => exact ⟨B1, φ1, S1, R1, run1⟩
    | false => exact ⟨B1, φ1, S1, R1, run1⟩
/-- a op b op' c -/
def mChain (f g : Dop) (fa fb fc : M D) : M D := M.bind fa fun x => M.bind fb fun y => M.bind (f x y) fun t => match t with
  | .bl true => M.bind fc fun z => g y z
  | .bl false => M.pure (.bl false)
  | _ => fun _ _ _ => False
theorem tChain_of {K : PySem.W.Frag} {r r' : R2} {f g : Dop} (hr : OpA K WE r f) (hr' : OpA K WE r' g) (σ : L2.St) (H : Hp) (Q : VK) (h : tE K WE (mChain f g fa fb fc) σ H Q) : tChain r r' (tE K WE fa) (tE K WE fb) (tE K WE fc) σ H Q := by
  obtain ⟨B, φ, S, R, run⟩ := h
  refine ⟨B, φ, S, R, run.bind.imp ?_⟩
  rintro x H1 ⟨d, B1, φ1, S1, e1, R1, r1, run1⟩
  refine ⟨B1, φ1, S1, R1, run1.bind.imp ?_⟩
  rintro y H2 ⟨d2, B2, φ2, S2, e2, R2, r2, run2⟩
  refine hr B2 φ2 S2 σ H2 d d2 x y _ R2 (r1.mono e2 _ _) r2 (run2.bind.imp ?_)
  rintro z H3 ⟨d3, B3, φ3, S3, e3, R3, r3, run3⟩
  cases d3 with
  | bl t =>
    simp only [Rep] at r3
    refine ⟨t, r3, ?_⟩
    cases t with
    | true =>
      refine iteT ⟨B3, φ3, S3, R3, run3.bind.imp ?_⟩
      rintro w H4 ⟨d4, B4, φ4, S4, e4, R4, r4, run4⟩
      exact hr' B4 φ4 S4 σ H4 d2 d4 y w _ R4 ((r2.mono e3 _ _).mono e4 _ _) r4 run4
    | false => exact iteF (Run.ret R3 run3 (fun _ _ h => h) (by simp only [Rep]))
  | _ => exact run3.elim fun _ h => h.elim fun _ h => h.1.elim
theorem de_chain {op op' : CmpOp} {r r' : R2} {f g : Dop} (ho : OpR X (compareOp op) r) (hr : OpA X.K WE r f) (ho' : OpR X (compareOp op') r') (hr' : OpA X.K WE r' g) (ha : PE X a (tE X.K WE fa)) (hb : PE X b (tE X.K WE fb)) (hc : PE X c (tE X.K WE fc))
    (hm : lastMarks [op, op'] [b, c] = false := by with_unfolding_all rfl) : PE X (.Compare a [op, op'] [b, c] pos) (tE X.K WE (mChain f g fa fb fc)) := PE.weak (pe_chain ho ho' ha hb hc hm) fun σ H Q h => tChain_of hr hr' σ H Q h
theorem dt_chain {op op' : CmpOp} {r r' : R2} {f g : Dop} (ho : OpR X (compareOp op) r) (hr : OpA X.K WE r f) (ho' : OpR X (compareOp op') r') (hr' : OpA X.K WE r' g) (ha : PE X a (tE X.K WE fa)) (hb : PE X b (tE X.K WE fb)) (hc : PE X c (tE X.K WE fc))
    (hm : lastMarks [op, op'] [b, c] = false := by with_unfolding_all rfl) : PT X (.Compare a [op, op'] [b, c] pos) (tT X.K WE (mTest (mChain f g fa fb fc))) :=
  PT.weak (pt_chain ho ho' ha hb hc hm) fun σ H Q h => tChain_of hr hr' σ H _ (tB_of σ H Q h)
end

/-! ### built-in calls by values -/
section
variable {X : Cx} {WE : WX}
def CallA (K : PySem.W.Frag) (WE : WX) (r : List V → Hp → VK → Prop) (g : List D → M D) : Prop :=
  ∀ (B : Hp) (φ : List Addr) (S : AS) (σ : L2.St) (H : Hp) (ds : List D) (vs : List V) (Q : VK), Rel K B φ S σ H → Reps K B φ ds vs → RRun K WE (g ds) B φ S σ H Q → r vs H Q
theorem tCB_of {K : PySem.W.Frag} {r : List V → Hp → VK → Prop} {g : List D → M D} {ga : M (List D)} (hr : CallA K WE r g) (σ : L2.St) (H : Hp) (Q : VK) (h : tE K WE (M.bind ga g) σ H Q) : tCB r (tA K WE ga) σ H Q := by
  obtain ⟨B, φ, S, R, run⟩ := h
  refine ⟨B, φ, S, R, run.bind.imp ?_⟩
  rintro xs H1 ⟨l, B1, φ1, S1, e1, R1, r1, run1⟩
  exact hr B1 φ1 S1 σ H1 l xs Q R1 r1 run1
theorem de_callB {x : Str} {p pos : Pos} {e : Expr} {es : List Expr} {id : String} {r : List V → Hp → VK → Prop} {g : List D → M D} {ga : M (List D)} (hc : CallR X (.builtin id) r) (hr : CallA X.K WE r g) (hm : X.mg x = none) (hv : bootBuiltins x = some (.builtin id)) (ha : PA X (e :: es) (tA X.K WE ga)) (hg : Gl X x := by rfl) (hn : x ≠ "__name__" := by decide)
    (hdb : (x == ("__debug__" : Str)) = false := by decide) (he : starEach (e :: es) X.env = (false, eval e X.env) :: starEach es X.env := by rfl) (hpl : (backTo pos (starEach es X.env)).any (·.1) = false := by rfl) : PE X (.Call (.Name x p) (e :: es) [] pos) (tE X.K WE (M.bind ga g)) :=
  PE.weak (pe_callB hc hg hm hv ha hn hdb he hpl) fun σ H Q h => tCB_of hr σ H Q h
theorem de_callTy {x : Str} {p pos : Pos} {e : Expr} {es : List Expr} {T : String} {r : List V → Hp → VK → Prop} {g : List D → M D} {ga : M (List D)} (hc : CallR X (.type T) r) (hr : CallA X.K WE r g) (hm : X.mg x = none) (hv : bootBuiltins x = some (.type T)) (ha : PA X (e :: es) (tA X.K WE ga)) (hg : Gl X x := by rfl) (hn : x ≠ "__name__" := by decide)
    (hdb : (x == ("__debug__" : Str)) = false := by decide) (he : starEach (e :: es) X.env = (false, eval e X.env) :: starEach es X.env := by rfl) (hpl : (backTo pos (starEach es X.env)).any (·.1) = false := by rfl) : PE X (.Call (.Name x p) (e :: es) [] pos) (tE X.K WE (M.bind ga g)) :=
  PE.weak (pe_callTy hc hg hm hv ha hn hdb he hpl) fun σ H Q h => tCB_of hr σ H Q h
def bLen (ds : List D) : M D := fun S P _ => match ds with
  | [.str z] => z.length ≤ sizeLine ∧ P (.int z.length) S
  | [d] => (match rdS S.W d with
    | some l => P (.int l.length) S
    | none => False)
  | _ => False
theorem one_inv {K : PySem.W.Frag} {B : Hp} {φ : List Addr} {d : D} {vs : List V} (h : Reps K B φ [d] vs) : ∃ v, vs = [v] ∧ Rep K B φ d v := by
  obtain ⟨x, r, rfl, h1, t⟩ := h.cons_inv
  rw [t.nil_inv]
  exact ⟨x, rfl, h1⟩
theorem two_inv {K : PySem.W.Frag} {B : Hp} {φ : List Addr} {d e : D} {vs : List V} (h : Reps K B φ [d, e] vs) : ∃ v u, vs = [v, u] ∧ Rep K B φ d v ∧ Rep K B φ e u := by
  obtain ⟨x, r, rfl, h1, t⟩ := h.cons_inv
  obtain ⟨y, rfl, h2⟩ := one_inv t
  exact ⟨x, y, rfl, h1, h2⟩
theorem ca_len : CallA X.K WE (fun xs H Q => ∃ x n, xs = [x] ∧ LenV X.K x H n ∧ Q (.int n) H) bLen := by
  intro B φ S σ H ds vs Q R r q
  obtain ⟨P, Xx, h1, h2, h3⟩ := q
  match ds, r, h1 with
  | [d], r, h1 =>
    obtain ⟨v, rfl, r1⟩ := one_inv r
    have gen : (match rdS S.W d with
      | some l => P (.int l.length) S
      | none => False) → ∃ x n, [v] = [x] ∧ LenV X.K x H n ∧ Q (.int n) H := fun g => by
      split at g
      · rename_i l e
        obtain ⟨p, xs, rfl, hp, hr⟩ := rdS_ok R.w r1 e
        refine ⟨_, xs.length, rfl, ?_, Run.fin h2 g R (by simp only [Rep, hr.length])⟩
        rcases hp with hp | hp
        · exact .inl ⟨xs, hp, rfl⟩
        · exact .inr ⟨xs, hp, rfl⟩
      · exact g.elim
    cases d with
    | str z =>
      simp only [Rep] at r1
      subst r1
      exact ⟨_, z.length, rfl, ⟨h1.1, rfl⟩, Run.fin h2 h1.2 R (by simp only [Rep])⟩
    | _ => exact gen h1
  | [], _, h1 => exact False.elim h1
  | a :: b :: c, _, h1 => cases a <;> exact False.elim h1
def bMax (ds : List D) : M D := fun S P _ => match ds with
  | [.int i, .int j] => P (.int (if j > i then j else i)) S
  | _ => False
def bMin (ds : List D) : M D := fun S P _ => match ds with
  | [.int i, .int j] => P (.int (if j < i then j else i)) S
  | _ => False
theorem ca_max : CallA X.K WE (fun xs H Q => ∃ i j, xs = [.int i, .int j] ∧ Q (.int (if j > i then j else i)) H) bMax := by
  intro B φ S σ H ds vs Q R r q
  obtain ⟨P, Xx, h1, h2, h3⟩ := q
  unfold bMax at h1
  split at h1
  · rename_i i j
    obtain ⟨v, u, rfl, r1, r2⟩ := two_inv r
    simp only [Rep] at r1 r2
    subst r1; subst r2
    exact ⟨i, j, rfl, Run.fin h2 h1 R (by simp only [Rep])⟩
  · exact h1.elim
theorem ca_min : CallA X.K WE (fun xs H Q => ∃ i j, xs = [.int i, .int j] ∧ Q (.int (if j < i then j else i)) H) bMin := by
  intro B φ S σ H ds vs Q R r q
  obtain ⟨P, Xx, h1, h2, h3⟩ := q
  unfold bMin at h1
  split at h1
  · rename_i i j
    obtain ⟨v, u, rfl, r1, r2⟩ := two_inv r
    simp only [Rep] at r1 r2
    subst r1; subst r2
    exact ⟨i, j, rfl, Run.fin h2 h1 R (by simp only [Rep])⟩
  · exact h1.elim
/-- min of a list of ints -/
def bMinL (ds : List D) : M D := fun S P _ => match ds with
  | [d] => ∃ ns : List Int, rdL S.W d = some (ns.map D.int) ∧ 0 < ns.length ∧ ∀ m, m ∈ ns → (∀ y, y ∈ ns → m ≤ y) → P (.int m) S
  | _ => False
theorem reps_ints {K : PySem.W.Frag} {B : Hp} {φ : List Addr} : ∀ {ns : List Int} {xs : List V}, Reps K B φ (ns.map D.int) xs → xs = ns.map V.int
  | [], xs, h => by rw [h.nil_inv]; rfl
  | n :: ns, xs, h => by
    obtain ⟨x, r, rfl, h1, t⟩ := h.cons_inv
    simp only [Rep] at h1
    subst h1
    rw [reps_ints t]
    rfl
theorem ca_minL : CallA X.K WE (rMin X.K) bMinL := by
  intro B φ S σ H ds vs Q R r q
  obtain ⟨P, Xx, h1, h2, h3⟩ := q
  unfold bMinL at h1
  split at h1
  · rename_i d
    obtain ⟨v, rfl, r1⟩ := one_inv r
    obtain ⟨ns, e, hl, hm⟩ := h1
    obtain ⟨p, xs, rfl, hp, hr⟩ := rdL_ok R.w r1 e
    have := reps_ints hr
    subst this
    exact ⟨p, ns, rfl, hp, hl, fun m m1 m2 => Run.fin h2 (hm m m1 m2) R (by simp only [Rep])⟩
  · exact h1.elim
/-- isinstance -/
def tyN (W : Wd) : D → Option String
  | .non => some "NoneType"
  | .bl _ => some "bool"
  | .int _ => some "int"
  | .str _ => some "str"
  | .tup _ => some "tuple"
  | .lst _ => some "list"
  | .dct _ _ => some "dict"
  | .hnd n => match W[n]? with
    | some (.lst _) => some "list"
    | some (.dct _ _) => some "dict"
    | _ => none
  | _ => none
def isT (a b : String) : Bool := decide (a = b) || (decide (a = "bool") && decide (b = "int"))
theorem isT_ok : ∀ a ∈ ["NoneType", "bool", "int", "str", "tuple", "list", "dict"], ∀ b ∈ ["int", "str", "bool", "tuple", "list", "dict"], kitB a b = some (isT a b) := by decide +kernel
def bIsi (ds : List D) : M D := fun S P _ => match ds with
  | [d, .ty n] => n ∈ ["int", "str", "bool", "tuple", "list", "dict"] ∧ (match tyN S.W d with
    | some t => P (.bl (isT t n)) S
    | none => False)
  | _ => False
theorem tyN_ok {K : PySem.W.Frag} {B H : Hp} {φ : List Addr} {W : Wd} (R : RelW K B φ W H) {d : D} {v : V} {t : String} (h : Rep K B φ d v) (e : tyN W d = some t) : TyX K H v (.type t) ∧ t ∈ ["NoneType", "bool", "int", "str", "tuple", "list", "dict"] := by
  cases d with
  | non => simp only [tyN, Option.some.injEq] at e; subst e; simp only [Rep] at h; subst h; exact ⟨.base .non, by decide⟩
  | bl b => simp only [tyN, Option.some.injEq] at e; subst e; simp only [Rep] at h; subst h; exact ⟨.base (.bl _), by decide⟩
  | int b => simp only [tyN, Option.some.injEq] at e; subst e; simp only [Rep] at h; subst h; exact ⟨.base (.int _), by decide⟩
  | str b => simp only [tyN, Option.some.injEq] at e; subst e; simp only [Rep] at h; subst h; exact ⟨.base (.str _), by decide⟩
  | tup l =>
    simp only [tyN, Option.some.injEq] at e; subst e; simp only [Rep] at h
    obtain ⟨p, xs, rfl, hp, _⟩ := h
    rcases R.sqT hp with (q | ⟨o, q⟩) | ⟨o, its, n, k, c, _⟩
    · exact ⟨.base (.tup q), by decide⟩
    · exact ⟨.fTuple q, by decide⟩
    · exact ⟨.kTuple k c, by decide⟩
  | lst l =>
    simp only [tyN, Option.some.injEq] at e; subst e; simp only [Rep] at h
    obtain ⟨p, xs, rfl, hp, _⟩ := h
    exact ⟨.base (.lst (R.lst hp)), by decide⟩
  | dct ks l =>
    simp only [tyN, Option.some.injEq] at e; subst e; simp only [Rep] at h
    obtain ⟨p, xs, rfl, hp, _⟩ := h
    rcases R.sub.rd hp with q | ⟨o, q⟩
    · exact ⟨.base (.dK q), by decide⟩
    · exact ⟨.fDict q, by decide⟩
  | hnd n =>
    simp only [tyN] at e
    simp only [Rep] at h
    obtain ⟨a, ha, rfl⟩ := h
    split at e
    · rename_i l hl
      cases e
      obtain ⟨a', ha', xs, hx, hr⟩ := R.get hl
      rw [ha] at ha'; cases ha'
      exact ⟨.base (.lst hx), by decide⟩
    · rename_i ks l hl
      cases e
      obtain ⟨a', ha', xs, hx, hk, hr⟩ := R.get hl
      rw [ha] at ha'; cases ha'
      exact ⟨.base (.dK hx), by decide⟩
    · cases e
  | _ => simp [tyN] at e
theorem ca_isi : CallA X.K WE (rIsi X.K) bIsi := by
  intro B φ S σ H ds vs Q R r q
  obtain ⟨P, Xx, h1, h2, h3⟩ := q
  unfold bIsi at h1
  split at h1
  · rename_i d n
    obtain ⟨v, u, rfl, r1, r2⟩ := two_inv r
    simp only [Rep] at r2
    subst r2
    obtain ⟨hn, h1⟩ := h1
    split at h1
    · rename_i t e
      obtain ⟨ty, ht⟩ := tyN_ok R.w r1 e
      exact ⟨v, .ty n, .type t, .type n, isT t n, rfl, .ty n, ty, kit_ty (isT_ok t ht n hn), Run.fin h2 h1 R (by simp only [Rep])⟩
    · exact h1.elim
  · exact h1.elim
/-- list(x), of a list or tuple -/
def bList (h : Bool) (ds : List D) : M D := fun S P X => match ds with
  | [d] => (match rdS S.W d with
    | some l => newL h l S P X
    | none => False)
  | _ => False
theorem ca_list (hh : Bool) : CallA X.K WE (fun xs H Q => ∃ p ys, xs = [.ref p] ∧ (SqL X.K H p ys ∨ SqT X.K H p ys) ∧ ∀ l, H l = none → Q (.ref l) (upd H l (.lst ys))) (bList hh) := by
  intro B φ S σ H ds vs Q R r q
  obtain ⟨P, Xx, h1, h2, h3⟩ := q
  unfold bList at h1
  split at h1
  · rename_i d
    obtain ⟨v, rfl, r1⟩ := one_inv r
    split at h1
    · rename_i l e
      obtain ⟨p, xs, rfl, hp, hr⟩ := rdS_ok R.w r1 e
      exact ⟨p, xs, rfl, hp, fun z hz => newL_ok (WE := WE) R ⟨P, Xx, h1, h2, h3⟩ hr hz⟩
    · exact h1.elim
  · exact h1.elim
end
end Tw

set_option Elab.async false
set_option linter.all false
set_option maxRecDepth 100000
set_option maxHeartbeats 4000000
namespace Tw
open PySem PySem.Spec PyProof.Rows L2

/-! ### targets -/
abbrev MG := D → AS → (AS → Prop) → Prop
abbrev MGs := List D → AS → (AS → Prop) → Prop
def tG (K : PySem.W.Frag) (own : List Nat) (f : MG) : TG := fun v σ H Q => ∃ B φ S d P, Rel K B φ S σ H ∧ Rep K B φ d v ∧ f d S P ∧ ∀ S' σ' B' φ' H', P S' → Ext B φ B' φ' → Rel K B' φ' S' σ' H' → wipe σ' own = wipe σ own → Q σ' H'
def tGs (K : PySem.W.Frag) (own : List Nat) (f : MGs) : TGs := fun v σ H Q => ∃ B φ S d P, Rel K B φ S σ H ∧ Reps K B φ d v ∧ f d S P ∧ ∀ S' σ' B' φ' H', P S' → Ext B φ B' φ' → Rel K B' φ' S' σ' H' → wipe σ' own = wipe σ own → Q σ' H'
theorem wipe_get : ∀ (own : List Nat) (σ : L2.St) (j : Nat), (wipe σ own)[j]? = if j ∈ own ∧ j < σ.length then some none else σ[j]?
  | [], σ, j => by simp [wipe]
  | v :: vs, σ, j => by
    unfold wipe
    rw [List.getElem?_set, wipe_length, wipe_get vs σ j]
    by_cases h1 : v = j
    · subst h1
      by_cases h2 : v < σ.length
      · simp [h2]
      · simp [h2]
    · have h3 : ¬ j = v := fun z => h1 z.symm
      simp [h1, h3]
theorem wipe_set {own : List Nat} {i : Nat} (h : i ∈ own) (σ : L2.St) (v : Option V) : wipe (σ.set i v) own = wipe σ own := by
  apply List.ext_getElem?
  intro j
  rw [wipe_get, wipe_get, List.length_set]
  by_cases hj : j ∈ own
  · by_cases hl : j < σ.length
    · simp [hj, hl]
    · simp [hj, hl]
  · have : i ≠ j := fun z => hj (z ▸ h)
    simp [hj, List.getElem?_set_ne this]
section
variable {X : Cx} {WE : WX} {pos : Pos}
theorem PG.weak {e : Expr} {t t' : TG} (h : PG X e t) (w : ∀ v σ H Q, t' v σ H Q → t v σ H Q) : PG X e t' := ⟨fun pins s σ H v u Q I r q => h.run pins s σ H v u Q I r (w v σ H Q q)⟩
theorem PGs.weak {e : List Expr} {t t' : TGs} (h : PGs X e t) (w : ∀ v σ H Q, t' v σ H Q → t v σ H Q) : PGs X e t' := ⟨fun pins s σ H v u Q I r q => h.run pins s σ H v u Q I r (w v σ H Q q)⟩
def gN (i : Nat) : MG := fun d S P => P ⟨S.σ.set i (some d), S.W⟩
theorem dg_name (i : Nat) {own : List Nat} {x : Str} (hN : X.N.Nodup) (ho : i ∈ own := by decide) (hi : X.N[i]? = some x := by rfl) (hx : Loc X.env.scope x := by first | exact Or.inl rfl | exact Or.inr rfl) (hf : X.fn x = true ∨ X.env.scope.names.lookup x = some .local := by first | exact .inl rfl | exact .inr rfl | assumption) : PG X (.Name x pos) (tG X.K own (gN i)) :=
  PG.weak (pg_name hN hi hx hf) fun v σ H Q ⟨B, φ, S, d, P, R, r, h1, h2⟩ => h2 _ _ _ _ _ h1 (Ext.refl _ _) (R.set r) (wipe_set ho σ _)
def gNil : MGs := fun l S P => l = [] ∧ P S
def gCons (g : MG) (gs : MGs) : MGs := fun l S P => match l with
  | d :: r => g d S fun S1 => gs r S1 P
  | [] => False
theorem dgs_nil {own : List Nat} : PGs X [] (tGs X.K own gNil) := PGs.weak pgs_nil fun v σ H Q ⟨B, φ, S, d, P, R, r, ⟨h0, h1⟩, h2⟩ => by
  subst h0
  exact ⟨r.nil_inv, h2 _ _ _ _ _ h1 (Ext.refl _ _) R rfl⟩
theorem dgs_cons {own : List Nat} {e : Expr} {es : List Expr} {g : MG} {gs : MGs} (h1 : PG X e (tG X.K own g)) (h2 : PGs X es (tGs X.K own gs)) (hs : (assignEach (e :: es) X.env).map (·.2) = assign e X.env :: (assignEach es X.env).map (·.2) := by rfl) : PGs X (e :: es) (tGs X.K own (gCons g gs)) :=
  PGs.weak (pgs_cons h1 h2 hs) fun v σ H Q ⟨B, φ, S, l, P, R, r, q1, q2⟩ => by
    cases l with
    | nil => exact q1.elim
    | cons d l =>
      obtain ⟨x, xs, rfl, r1, r2⟩ := r.cons_inv
      refine ⟨x, xs, rfl, B, φ, S, d, _, R, r1, q1, fun S' σ' B' φ' H' p e R' w' => ?_⟩
      exact ⟨B', φ', S', l, P, R', r2.mono e _ _, p, fun S2 σ2 B2 φ2 H2 p2 e2 R2 w2 => q2 S2 σ2 B2 φ2 H2 p2 (e.trans e2) R2 (w2.trans w')⟩
def gTup (n : Nat) (gs : MGs) : MG := fun d S P => match d with
  | .tup l => l.length = n ∧ gs l S P
  | _ => False
theorem dg_tup {own : List Nat} {es : List Expr} {k : Nat} {gs : MGs} {n : Nat} (hc : X.calm = true) (h : PGs X es (tGs X.K own gs)) (hn : (assignEach es X.env).length = n := by rfl) (hst : (assignEach es X.env).findIdx? (·.1) = none := by rfl) : PG X (.Tuple es k pos) (tG X.K own (gTup n gs)) :=
  PG.weak (pg_tup hc h hn hst) fun v σ H Q ⟨B, φ, S, d, P, R, r, h1, h2⟩ => by
    cases d with
    | tup l =>
      simp only [Rep] at r
      obtain ⟨p, xs, rfl, hp, hr⟩ := r
      exact ⟨p, xs, rfl, R.w.sqT hp, by rw [hr.length]; exact h1.1, B, φ, S, l, P, R, hr, h1.2, h2⟩
    | _ => exact h1.elim
/-- o[i] = v -/
def repD : List Key → List D → Key → D → List D
  | k0 :: ks, d0 :: l, k, d => (if k0 = k then d else d0) :: repD ks l k d
  | _, l, _, _ => l
def putD (ks : List Key) (l : List D) (k : Key) (d : D) : List Key × List D := if (ks.any fun k0 => decide (k0 = k)) = true then (ks, repD ks l k d) else (ks ++ [k], l ++ [d])
def ixSet (l : List D) (i d : D) (k : List D → Prop) : Prop := match i with
  | .int j => (match ixN l.length j with
    | some m => k (l.set m d)
    | none => False)
  | _ => False
def dSet (o i d : D) : AS → (AS → Prop) → Prop := fun S P => match o with
  | .hnd n => (match S.W[n]? with
    | some (.lst l) => ixSet l i d fun l' => P ⟨S.σ, S.W.set n (.lst l')⟩
    | some (.dct ks l) => (match toKey i with
      | some k => ks.length < sizeLine ∧ P ⟨S.σ, S.W.set n (.dct (putD ks l k d).1 (putD ks l k d).2)⟩
      | none => False)
    | _ => False)
  | _ => False
def rSetAll : TSet := fun o i v H Q => rSetL o i v H Q ∨ ∃ a H', o = .ref a ∧ DPut H a i v H' ∧ Q H'
theorem set_all (hu : X.A.units + 64 < cLine) : PSet X rSetAll := by
  intro pins s σ H o i v ov iv u Q I ro ri rv h
  rcases h with h | ⟨a, H', rfl, g, q⟩
  · exact set_list pins s σ H o i v ov iv u Q I ro ri rv h
  · obtain rfl : ov = Value.ref a := ro
    exact d_setItem (by omega) I g ri rv fun s' I' => ⟨H', I', q⟩
theorem rep_rep {K : PySem.W.Frag} {B : Hp} {φ : List Addr} {k : Key} {d : D} {v : V} (rd : Rep K B φ d v) : ∀ {kvs : List (Key × V)} {l : List D}, Reps K B φ l (kvs.map (·.2)) →
    Reps K B φ (repD (kvs.map (·.1)) l k d) ((kvs.map (fun kv => if kv.1 = k then (kv.1, v) else kv)).map (·.2))
  | [], l, r => by simpa [repD] using r
  | (k0, v0) :: kvs, [], r => by simp [Reps] at r
  | (k0, v0) :: kvs, d0 :: l, r => by
    obtain ⟨x, xs, e, r1, r2⟩ := r.cons_inv
    simp only [List.map_cons, List.cons.injEq] at e
    obtain ⟨rfl, rfl⟩ := e
    have i2 := rep_rep (k := k) rd r2
    simp only [List.map_cons, repD]
    by_cases hk : k0 = k
    · simp only [hk, if_pos]
      exact Reps.cons rd i2
    · simp only [hk, if_false]
      exact Reps.cons r1 i2
theorem put_rep {K : PySem.W.Frag} {B : Hp} {φ : List Addr} {k : Key} {d : D} {v : V} (rd : Rep K B φ d v) {kvs : List (Key × V)} {l : List D} (r : Reps K B φ l (kvs.map (·.2))) :
    (putK kvs k v).map (·.1) = (putD (kvs.map (·.1)) l k d).1 ∧ Reps K B φ (putD (kvs.map (·.1)) l k d).2 ((putK kvs k v).map (·.2)) := by
  unfold putK putD
  have ea : ((kvs.map (·.1)).any fun k0 => decide (k0 = k)) = kvs.any fun kv => decide (kv.1 = k) := by rw [List.any_map]; rfl
  rw [ea]
  by_cases h' : (kvs.any fun kv => decide (kv.1 = k)) = true
  · rw [if_pos h', if_pos h']
    refine ⟨?_, rep_rep rd r⟩
    rw [List.map_map]
    refine List.map_congr_left fun p _ => ?_
    simp only [Function.comp]
    split <;> rfl
  · rw [if_neg h', if_neg h']
    rw [List.map_append, List.map_append]
    exact ⟨rfl, r.append (Reps.cons rd Reps.nil)⟩
def gSub (fo fi : M D) : MG := fun d S P => fo S (fun o S1 => fi S1 (fun i S2 => dSet o i d S2 P) fun _ _ => False) fun _ _ => False
theorem ixSet_inv {l : List D} {i d : D} {k : List D → Prop} (h : ixSet l i d k) : ∃ j m, i = .int j ∧ ixN l.length j = some m ∧ k (l.set m d) := by
  unfold ixSet at h
  split at h
  · split at h
    · rename_i j _ m e
      exact ⟨j, m, rfl, e, h⟩
    · exact h.elim
  · exact h.elim
theorem dSet_ok {K : PySem.W.Frag} {o i d : D} {x y v : V} {B : Hp} {φ : List Addr} {S : AS} {σ : L2.St} {H : Hp} {Q : Hp → Prop} {P : AS → Prop} (R : Rel K B φ S σ H) (ro : Rep K B φ o x) (ri : Rep K B φ i y) (rv : Rep K B φ d v) (h : dSet o i d S P)
    (hq : ∀ S' H', P S' → Rel K B φ S' σ H' → Q H') : rSetAll x y v H Q := by
  cases o with
  | hnd n =>
    simp only [Rep] at ro
    obtain ⟨a, ha, rfl⟩ := ro
    have h' : match S.W[n]? with
      | some (.lst l) => ixSet l i d fun l' => P ⟨S.σ, S.W.set n (.lst l')⟩
      | some (.dct ks l) => (match toKey i with
        | some k => ks.length < sizeLine ∧ P ⟨S.σ, S.W.set n (.dct (putD ks l k d).1 (putD ks l k d).2)⟩
        | none => False)
      | _ => False := h
    split at h'
    · rename_i l hl
      obtain ⟨a', ha', xs, hx, hr⟩ := R.w.get hl
      rw [ha] at ha'; cases ha'
      obtain ⟨j, m, rfl, em, hp⟩ := ixSet_inv h'
      simp only [Rep] at ri
      refine .inl ⟨a, xs, j, m, rfl, ri, hx, by rw [hr.length]; exact em, hq _ _ hp ?_⟩
      exact R.ext (Ext.refl _ _) (R.w.put ha ⟨_, upd_same, hr.set rv⟩)
    · rename_i ks l hl
      obtain ⟨a', ha', kvs, hx, hk, hr⟩ := R.w.get hl
      rw [ha] at ha'; cases ha'
      subst hk
      split at h'
      · rename_i k ek
        obtain ⟨hz, hp⟩ := h'
        obtain rfl := toKey_ok ri ek
        obtain ⟨p1, p2⟩ := put_rep (k := k) rv hr
        refine .inr ⟨a, upd H a (.dK (putK kvs k v)), rfl, .inl ⟨kvs, k, hx, rfl, by simpa using hz, rfl⟩, hq _ _ hp ?_⟩
        exact R.ext (Ext.refl _ _) (R.w.put ha ⟨_, upd_same, p1, p2⟩)
      · exact h'.elim
    · exact h'.elim
  | _ => exact False.elim h
theorem dg_sub {own : List Nat} {o i : Expr} {fo fi : M D} (hu : X.A.units + 64 < cLine) (ho : PE X o (tE X.K (fun _ _ _ _ => False) fo)) (hi : PE X i (tE X.K (fun _ _ _ _ => False) fi))
    (ha : ∀ v, assign (.Subscript o i pos) X.env v = (do
      let ov ← holding [v] (eval o X.env)
      let iv ← holding [v, ov] (eval i X.env)
      standAt pos
      holding [v, ov, iv] (setItem ov iv v)
      release [v, ov, iv] []) := by intro _; rfl) : PG X (.Subscript o i pos) (tG X.K own (gSub fo fi)) :=
  PG.weak (pg_sub ho hi (set_all hu) ha) fun v σ H Q ⟨B, φ, S, d, P, R, r, h1, h2⟩ => by
    refine ⟨B, φ, S, R, _, _, h1, ?_, fun _ _ _ _ _ _ _ z => z.elim⟩
    intro o' S1 x B1 φ1 H1 q1 e1 R1 r1
    refine ⟨B1, φ1, S1, R1, _, _, q1, ?_, fun _ _ _ _ _ _ _ z => z.elim⟩
    intro i' S2 y B2 φ2 H2 q2 e2 R2 r2
    exact dSet_ok R2 (r1.mono e2 _ _) r2 ((r.mono e1 _ _).mono e2 _ _) q2 fun S' H' p R' => h2 S' σ B2 φ2 H' p (e1.trans e2) R' rfl

/-! ### statements -/
def sSeq (f g : MS) : MS := fun S E => f S { E with nx := fun S1 => g S1 E }
def sNext : MS := fun S E => E.nx S
def sSet (i : Nat) (f : M D) : MS := fun S E => f S (fun d S1 => E.nx ⟨S1.σ.set i (some d), S1.W⟩) E.ex
def sAsg (g : MG) (f : M D) : MS := fun S E => f S (fun d S1 => g d S1 E.nx) E.ex
def sRet (f : M D) : MS := fun S E => f S E.rt E.ex
def sExpr (f : M D) : MS := fun S E => f S (fun _ S1 => E.nx S1) E.ex
def sIf (c : M Bool) (f g : MS) : MS := fun S E => c S (fun t S1 => if t = true then f S1 E else g S1 E) E.ex
def sBreak : MS := fun S E => E.bk S
def sCont : MS := fun S E => E.ct S
variable {st : Stmt} {rest : List Stmt} {f g : MS} {e : Expr} {fe : M D}
theorem ds_nil : PSs X [] (tS X.K WE sNext) := PSs.weak pss_nil fun D σ H ⟨B, φ, S, R, E, h, hn, _⟩ => hn _ _ _ _ _ h (Ext.refl _ _) R
theorem ds_cons (h1 : PS X st (tS X.K WE f)) (h2 : PSs X rest (tS X.K WE g)) : PSs X (st :: rest) (tS X.K WE (sSeq f g)) :=
  PSs.weak (pss_cons h1 h2) fun D σ H ⟨B, φ, S, R, E, h, hn, hr, hb, hc, hx⟩ => by
    refine ⟨B, φ, S, R, _, h, ?_, hr, hb, hc, hx⟩
    intro S' σ' B' φ' H' q e R'
    exact ⟨B', φ', S', R', E, q, fun S2 σ2 B2 φ2 H2 a b c => hn S2 σ2 B2 φ2 H2 a (e.trans b) c, fun d S2 σ2 v B2 φ2 H2 a b c r => hr d S2 σ2 v B2 φ2 H2 a (e.trans b) c r, fun S2 σ2 B2 φ2 H2 a b c => hb S2 σ2 B2 φ2 H2 a (e.trans b) c,
      fun S2 σ2 B2 φ2 H2 a b c => hc S2 σ2 B2 φ2 H2 a (e.trans b) c, fun x S2 σ2 cls d B2 φ2 H2 a b c r => hx x S2 σ2 cls d B2 φ2 H2 a (e.trans b) c r⟩
theorem ds_one (h1 : PS X st (tS X.K WE f)) : PSs X [st] (tS X.K WE f) := pss_one h1
theorem d_pass : PS X (.Pass pos) (tS X.K WE sNext) := PS.weak ps_pass fun D σ H ⟨B, φ, S, R, E, h, hn, _⟩ => hn _ _ _ _ _ h (Ext.refl _ _) R
theorem d_break : PS X (.Break pos) (tS X.K WE sBreak) := PS.weak ps_break fun D σ H ⟨B, φ, S, R, E, h, hn, hr, hb, _⟩ => hb _ _ _ _ _ h (Ext.refl _ _) R
theorem d_cont : PS X (.Continue pos) (tS X.K WE sCont) := PS.weak ps_continue fun D σ H ⟨B, φ, S, R, E, h, hn, hr, hb, hc, _⟩ => hc _ _ _ _ _ h (Ext.refl _ _) R
theorem d_set (i : Nat) {x : Str} {pos' : Pos} (hN : X.N.Nodup) (he : PE X e (tE X.K WE fe)) (hi : X.N[i]? = some x := by rfl) (hx : Loc X.env.scope x := by first | exact Or.inl rfl | exact Or.inr rfl) (hs : swapsWith e (some (.Name x pos')) pos.line X.env = pure false := by rfl)
    (hf : X.fn x = true ∨ X.env.scope.names.lookup x = some .local := by first | exact .inl rfl | exact .inr rfl | assumption) : PS X (.Assign [.Name x pos'] e pos) (tS X.K WE (sSet i fe)) :=
  PS.weak (ps_set hN hi hx he hs hf) fun D σ H ⟨B, φ, S, R, run⟩ => by
    refine ⟨B, φ, S, R, (RunS.expr (g := fun d S1 E => E.nx ⟨S1.σ.set i (some d), S1.W⟩) run).imp ?_⟩
    rintro v H1 ⟨d, B1, φ1, S1, e1, R1, r1, E, h, hn, _⟩
    exact hn _ _ _ _ _ h (Ext.refl _ _) (R1.set r1)
theorem d_asg {own : List Nat} {tg : Expr} {g : MG} (he : PE X e (tE X.K WE fe)) (hg : PG X tg (tG X.K own g)) (hs : swapsWithSole [tg] e pos.line X.env = pure false := by rfl) (hw : swappedStores [tg] e X.env = pure none := by rfl)
    (h1 : (assignEach [tg] X.env).map (·.2) = [assign tg X.env] := by rfl) : PS X (.Assign [tg] e pos) (tS X.K WE (sAsg g fe)) :=
  PS.weak (ps_asg he hg hs hw h1) fun D σ H ⟨B, φ, S, R, run⟩ => by
    refine ⟨B, φ, S, R, (RunS.expr (g := fun d S1 E => g d S1 E.nx) run).imp ?_⟩
    rintro v H1 ⟨d, B1, φ1, S1, e1, R1, r1, E, h, hn, _⟩
    exact ⟨B1, φ1, S1, d, _, R1, r1, h, fun S' σ' B' φ' H' a b c _ => hn S' σ' B' φ' H' a b c⟩
theorem d_expr (he : PE X e (tE X.K WE fe)) (hs : swapsWith e none pos.line X.env = pure false := by rfl) : PS X (.Expr e pos) (tS X.K WE (sExpr fe)) :=
  PS.weak (ps_expr he hs) fun D σ H ⟨B, φ, S, R, run⟩ => by
    refine ⟨B, φ, S, R, (RunS.expr (g := fun d S1 E => E.nx S1) run).imp ?_⟩
    rintro v H1 ⟨d, B1, φ1, S1, e1, R1, r1, E, h, hn, _⟩
    exact hn _ _ _ _ _ h (Ext.refl _ _) R1
theorem d_ret (he : PE X e (tE X.K WE fe)) : PS X (.Return (some e) pos) (tS X.K WE (sRet fe)) :=
  PS.weak (ps_ret he) fun D σ H ⟨B, φ, S, R, run⟩ => by
    refine ⟨B, φ, S, R, (RunS.expr (g := fun d S1 E => E.rt d S1) run).imp ?_⟩
    rintro v H1 ⟨d, B1, φ1, S1, e1, R1, r1, E, h, hn, hr, _⟩
    exact hr _ _ _ _ _ _ _ h (Ext.refl _ _) R1 r1
theorem d_retN : PS X (.Return none pos) (tS X.K WE (sRet (mC .non))) := PS.weak ps_retN fun D σ H ⟨B, φ, S, R, E, h, hn, hr, _⟩ => hr _ _ _ _ _ _ _ h (Ext.refl _ _) R (by simp only [Rep])
theorem d_if {c : Expr} {fc : M Bool} {a b : List Stmt} (hc : PT X c (tT X.K WE fc)) (ha : PSs X a (tS X.K WE f)) (hb : PSs X b (tS X.K WE g)) : PS X (.If c a b pos) (tS X.K WE (sIf fc f g)) :=
  PS.weak (ps_if hc ha hb) fun D σ H ⟨B, φ, S, R, run⟩ => by
    refine ⟨B, φ, S, R, (RunS.expr (g := fun t S1 E => if t = true then f S1 E else g S1 E) run).imp ?_⟩
    rintro t H1 ⟨t', B1, φ1, S1, e1, R1, rfl, run1⟩
    cases t with
    | true => exact iteT ⟨B1, φ1, S1, R1, run1⟩
    | false => exact iteF ⟨B1, φ1, S1, R1, run1⟩
/-- name op= e, ints -/
def sAug (i : Nat) (op : Int → Int → Int) (f : M D) : MS := fun S E => match S.σ[i]? with
  | some (some (.int x)) => f S (fun d S1 => match d with
    | .int y => E.nx ⟨S1.σ.set i (some (.int (op x y))), S1.W⟩
    | _ => False) E.ex
  | _ => False
theorem d_aug (i : Nat) {x : Str} {pos' : Pos} {op : Operator} {h : Int → Int → Int} (hN : X.N.Nodup) (hop : PIp X op (ipI h)) (he : PE X e (tE X.K WE fe)) (hi : X.N[i]? = some x := by rfl) (hx : Loc X.env.scope x := by first | exact Or.inl rfl | exact Or.inr rfl)
    (hf : X.fn x = true ∨ X.env.scope.names.lookup x = some .local := by first | exact .inl rfl | exact .inr rfl | assumption) : PS X (.AugAssign (.Name x pos') op e pos) (tS X.K WE (sAug i h fe)) :=
  PS.weak (ps_aug hN hi hx he hop hf) fun D σ H ⟨B, φ, S, R, E, q, hn, hr, hb, hc, hxx⟩ => by
    unfold sAug at q
    split at q
    · rename_i x0 e0
      obtain ⟨v, hv, rv⟩ := R.slot i _ e0
      simp only [Rep] at rv
      subst rv
      refine ⟨_, hv, ?_⟩
      have run : RunS X.K WE (fun S E => fe S (fun d S1 => (match d with
        | .int y => E.nx ⟨S1.σ.set i (some (.int (h x0 y))), S1.W⟩
        | _ => False)) E.ex) B φ S σ H { nx := D.nx, rt := D.rt, bk := D.bk, ct := D.ct } := ⟨E, q, hn, hr, hb, hc, hxx⟩
      refine ⟨B, φ, S, R, (RunS.expr (g := fun d S1 E => (match d with
        | .int y => E.nx ⟨S1.σ.set i (some (.int (h x0 y))), S1.W⟩
        | _ => False)) run).imp ?_⟩
      rintro w H1 ⟨d, B1, φ1, S1, e1, R1, r1, E1, h1, hn1, _⟩
      cases d with
      | int y =>
        simp only [Rep] at r1
        exact ⟨x0, y, rfl, r1, hn1 _ _ _ _ _ h1 (Ext.refl _ _) (R1.set (by simp only [Rep]))⟩
      | _ => exact h1.elim
    · exact q.elim

/-! ### loops -/
/-- an iterator gives these items while the world is as it should be -/
structure ItOk (K : PySem.W.Frag) (B : Hp) (φ : List Addr) (l : List D) (chk : Wd → Prop) (J : It) : Prop where
  go : ∀ (i : Nat) B1 φ1 W H, Ext B φ B1 φ1 → RelW K B1 φ1 W H → chk W → i < l.length → J.go i H
  yld : ∀ (i : Nat) B1 φ1 W H x H', Ext B φ B1 φ1 → RelW K B1 φ1 W H → chk W → J.yld i H x H' → ∀ d, l[i]? = some d → ∃ B2, Ext B1 φ1 B2 φ1 ∧ RelW K B2 φ1 W H' ∧ Rep K B2 φ1 d x
  stop : ∀ (i : Nat) B1 φ1 W H, Ext B φ B1 φ1 → RelW K B1 φ1 W H → chk W → i = l.length → J.stop i H
abbrev Items := List D × (Wd → Prop)
abbrev tIt (K : PySem.W.Frag) (WE : WX) (f : M Items) : TI := tOfG K WE (fun B φ a J => ItOk K B φ a.1 a.2 J) f
def loop (chk : Wd → Prop) (step : D → MS) : List D → MS
  | [], S, E => E.nx S
  | x :: xs, S, E => step x S { E with nx := fun S1 => chk S1.W ∧ loop chk step xs S1 E, ct := fun S1 => chk S1.W ∧ loop chk step xs S1 E, bk := E.nx }
def sFor (it : M Items) (g : MG) (body : MS) : MS := fun S E => it S (fun a S1 => a.2 S1.W ∧ loop a.2 (fun x S2 E2 => g x S2 fun S3 => body S3 E2) a.1 S1 E) E.ex
theorem d_for {own : List Nat} {tg iter : Expr} {body : List Stmt} {it : M Items} {g : MG} {f : MS} (hp : PassesOwn (model X.prog X.w) X.A X.env X.xe) (hc : X.calm = true) (hi : PI X tg iter (tIt X.K WE it)) (hg : PG X tg (tG X.K own g)) (hb : PSs X body (tS X.K WE f))
    (hs : ∀ x, foldedSetIterable iter X.env x = pure x := by intro _; rfl) : PS X (.For tg iter body [] pos) (tS X.K WE (sFor it g f)) :=
  PS.weak (ps_for hp hc hi hg hb hs) fun D σ H ⟨B, φ, S, R, run⟩ => by
    refine ⟨B, φ, S, R, (RunS.expr (g := fun (a : Items) S1 E => a.2 S1.W ∧ loop a.2 (fun x S2 E2 => g x S2 fun S3 => f S3 E2) a.1 S1 E) run).imp ?_⟩
    rintro J H1 ⟨⟨l, chk⟩, B1, φ1, S1, e1, R1, ok, E, ⟨c0, h⟩, hn, hr, hbk, hct, hx⟩
    refine ⟨fun i m σ H => m = l.length - i ∧ i ≤ l.length ∧ ∃ B2 φ2 S2, Ext B1 φ1 B2 φ2 ∧ Rel X.K B2 φ2 S2 σ H ∧ chk S2.W ∧ loop chk (fun x S2 E2 => g x S2 fun S3 => f S3 E2) (l.drop i) S2 E, ⟨l.length, by simp, Nat.zero_le _, B1, φ1, S1, Ext.refl _ _, R1, c0, h⟩, ?_⟩
    rintro i m σ' H' ⟨rfl, hi, B2, φ2, S2, e2, R2, c2, h2⟩
    by_cases hlt : i < l.length
    · refine .inr ⟨ok.go i B2 φ2 S2.W H' e2 R2.w c2 hlt, fun σ H => ∃ B2 φ2 S2, Ext B1 φ1 B2 φ2 ∧ Rel X.K B2 φ2 S2 σ H ∧ chk S2.W ∧ loop chk (fun x S2 E2 => g x S2 fun S3 => f S3 E2) (l.drop (i + 1)) S2 E, fun σ3 H3 q => ⟨l.length - (i + 1), by omega, rfl, hlt, q⟩, ?_⟩
      intro x H3 y
      obtain ⟨B3, e3, w3, r3⟩ := ok.yld i B2 φ2 S2.W H' x H3 e2 R2.w c2 y l[i] (List.getElem?_eq_getElem hlt)
      rw [List.drop_eq_getElem_cons hlt] at h2
      have R3 : Rel X.K B3 φ2 S2 σ' H3 := R2.ext e3 w3
      refine ⟨B3, φ2, S2, l[i], _, R3, r3, h2, ?_⟩
      intro S4 σ4 B4 φ4 H4 q4 e4 R4 _
      have eAll : Ext B1 φ1 B4 φ4 := (e2.trans e3).trans e4
      refine ⟨B4, φ4, S4, R4, _, q4, ?_, ?_, ?_, ?_, ?_⟩
      · intro S5 σ5 B5 φ5 H5 ⟨c5, q5⟩ e5 R5
        exact ⟨B5, φ5, S5, eAll.trans e5, R5, c5, q5⟩
      · intro d S5 σ5 v B5 φ5 H5 q5 e5 R5 r5
        exact hr d S5 σ5 v B5 φ5 H5 q5 (eAll.trans e5) R5 r5
      · intro S5 σ5 B5 φ5 H5 q5 e5 R5
        exact hn S5 σ5 B5 φ5 H5 q5 (eAll.trans e5) R5
      · intro S5 σ5 B5 φ5 H5 ⟨c5, q5⟩ e5 R5
        exact ⟨B5, φ5, S5, eAll.trans e5, R5, c5, q5⟩
      · intro x S5 σ5 cls d B5 φ5 H5 q5 e5 R5 r5
        exact hx x S5 σ5 cls d B5 φ5 H5 q5 (eAll.trans e5) R5 r5
    · have e : i = l.length := by omega
      subst e
      rw [List.drop_length] at h2
      exact .inl ⟨ok.stop _ B2 φ2 S2.W H' e2 R2.w c2 rfl, hn S2 σ' B2 φ2 H' h2 e2 R2⟩
/-- while -/
def whileN (c : M Bool) (b : MS) : Nat → MS
  | 0, _, _ => False
  | n + 1, S, E => c S (fun t S1 => if t = true then b S1 { E with nx := fun S2 => whileN c b n S2 E, ct := fun S2 => whileN c b n S2 E, bk := E.nx } else E.nx S1) E.ex
def sWhile (c : M Bool) (b : MS) : MS := fun S E => ∃ n, whileN c b n S E
theorem d_while {c : Expr} {body : List Stmt} {fc : M Bool} {f : MS} (hp : PassesOwn (model X.prog X.w) X.A X.env X.xe) (hc : PT X c (tT X.K WE fc)) (hb : PSs X body (tS X.K WE f)) : PS X (.While c body [] pos) (tS X.K WE (sWhile fc f)) :=
  PS.weak (ps_while hp hc hb) fun D σ H ⟨B, φ, S, R, E, ⟨n, h⟩, hn, hr, hbk, hct, hx⟩ => by
    refine ⟨fun m σ H => ∃ B2 φ2 S2, Ext B φ B2 φ2 ∧ Rel X.K B2 φ2 S2 σ H ∧ whileN fc f m S2 E, ⟨n, B, φ, S, Ext.refl _ _, R, h⟩, ?_⟩
    rintro m σ' H' ⟨B2, φ2, S2, e2, R2, h2⟩
    cases m with
    | zero => exact h2.elim
    | succ m =>
      refine ⟨B2, φ2, S2, R2, _, _, h2, ?_, ?_⟩
      · rintro t S3 t' B3 φ3 H3 q3 e3 R3 rfl
        cases t' with
        | true =>
          have q3' : f S3 { E with nx := fun S2 => whileN fc f m S2 E, ct := fun S2 => whileN fc f m S2 E, bk := E.nx } := q3
          have eA := e2.trans e3
          refine iteT ⟨fun σ H => ∃ B2 φ2 S2, Ext B φ B2 φ2 ∧ Rel X.K B2 φ2 S2 σ H ∧ whileN fc f m S2 E, fun σ4 H4 q => ⟨m, Nat.lt_succ_self _, q⟩, B3, φ3, S3, R3, _, q3', ?_, ?_, ?_, ?_, ?_⟩
          · intro S5 σ5 B5 φ5 H5 q5 e5 R5
            exact ⟨B5, φ5, S5, eA.trans e5, R5, q5⟩
          · intro d S5 σ5 v B5 φ5 H5 q5 e5 R5 r5
            exact hr d S5 σ5 v B5 φ5 H5 q5 (eA.trans e5) R5 r5
          · intro S5 σ5 B5 φ5 H5 q5 e5 R5
            exact hn S5 σ5 B5 φ5 H5 q5 (eA.trans e5) R5
          · intro S5 σ5 B5 φ5 H5 q5 e5 R5
            exact ⟨B5, φ5, S5, eA.trans e5, R5, q5⟩
          · intro x S5 σ5 cls d B5 φ5 H5 q5 e5 R5 r5
            exact hx x S5 σ5 cls d B5 φ5 H5 q5 (eA.trans e5) R5 r5
        | false => exact iteF (hn S3 σ' B3 φ3 H3 q3 (e2.trans e3) R3)
      · intro x S5 cls d B5 φ5 H5 q5 e5 R5 r5
        exact hx x S5 σ' cls d B5 φ5 H5 q5 (e2.trans e5) R5 r5
end
end Tw

set_option Elab.async false
set_option linter.all false
set_option maxRecDepth 100000
set_option maxHeartbeats 4000000
namespace Tw
open PySem PySem.Spec PyProof.Rows L2

/-! ### what is walked -/
section
variable {X : Cx} {WE : WX} {pos : Pos} {tg e : Expr} {fe : M D}
theorem PI.weak {t t' : TI} (h : PI X tg e t) (w : ∀ σ H Q, t' σ H Q → t σ H Q) : PI X tg e t' := ⟨fun pins s σ H Q I q => h.run pins s σ H Q I (w σ H Q q)⟩
def iAny (K : PySem.W.Frag) (te : TE) : TI := fun σ H R => te σ H fun x H1 => (∃ a, x = .ref a ∧ (∃ xs, SqL K H1 a xs) ∧ R (Itl K a) H1) ∨ (∃ a, x = .ref a ∧ (∃ xs, SqT K H1 a xs) ∧ R (Itt K a) H1) ∨ ∃ z, x = .str z ∧ R (Its z) H1
theorem pi_any {te : TE} (he : PE X e te) : PI X tg e (iAny X.K te) := by
  refine ⟨fun pins s σ H R I h => ?_⟩
  refine thn (he.run pins s σ H _ I h) fun v s1 ⟨x, H1, I1, r1, q1⟩ => ?_
  have all : ∀ {te' : TE}, True := trivial
  rcases q1 with ⟨a, e, ⟨xs, hq⟩, q⟩ | ⟨a, e, ⟨xs, hq⟩, q⟩ | ⟨z, e, q⟩
  · subst e
    cases r1
    obtain ⟨its, rv, p, hz⟩ := I1.list hq
    refine wpAny_pyIter_list p.isList ?_
    refine ⟨s1.heap.objs.size, [s1.heap.objs.size], _, _, H1, rfl, I1.kept (t' := s1.toks) fun b o e => Heap.get?_push_of_some _ e, turn_list a _, ⟨_, Heap.get?_push_size _ rfl, rfl, rfl⟩, fun b hb => ?_, q⟩
    have e : b = s1.heap.objs.size := by simpa using hb
    subst e
    exact I1.fpOk (Nat.le_refl _) (I1.hok.fresh (Nat.le_refl _))
  · subst e
    cases r1
    obtain ⟨its, rv, p, hz⟩ := I1.tuple hq
    refine wpAny_pyIter_tuple (show s1.heap.IsTuple a its.toArray from p) ?_
    refine ⟨s1.heap.objs.size, [s1.heap.objs.size], _, _, H1, rfl, I1.kept (t' := s1.toks) fun b o e => Heap.get?_push_of_some _ e, turn_tuple a _, ⟨_, Heap.get?_push_size _ rfl, rfl, rfl⟩, fun b hb => ?_, q⟩
    have e : b = s1.heap.objs.size := by simpa using hb
    subst e
    exact I1.fpOk (Nat.le_refl _) (I1.hok.fresh (Nat.le_refl _))
  · subst e
    obtain ⟨t, rfl⟩ := r1
    cases ha : z.cps.all (· < 128)
    · exact wpAny_pyIter_wide ha (pi_one (tk := s1.toks) I1 _ (turn_str _ z t "str_iterator" (.inr rfl)) ⟨_, Heap.get?_push_size _ rfl, rfl, rfl⟩ q)
    · exact wpAny_pyIter_ascii ha (pi_one (tk := s1.toks) I1 _ (turn_str _ z t "str_ascii_iterator" (.inl rfl)) ⟨_, Heap.get?_push_size _ rfl, rfl, rfl⟩ q)
def bIter (d : D) : M Items := fun S P _ => match d with
  | .str z => P (z.cps.toList.map fun c => .str ⟨#[c]⟩, fun _ => True) S
  | d => (match rdS S.W d with
    | some l => P (l, fun W => rdS W d = some l) S
    | none => False)
theorem rdS_kind {W : Wd} {d : D} {l : List D} (e : rdS W d = some l) : (d = .tup l) ∨ rdL W d = some l := by
  cases d with
  | tup m => simp only [rdS, Option.some.injEq] at e; subst e; exact .inl rfl
  | _ => exact .inr e
theorem itOk_list {K : PySem.W.Frag} {B : Hp} {φ : List Addr} {d : D} {a : Addr} {l : List D} (r : Rep K B φ d (.ref a)) (nt : ∀ m, d ≠ .tup m) : ItOk K B φ l (fun W => rdS W d = some l) (Itl K a) := by
  have rd : ∀ {B1 φ1 W H}, Ext B φ B1 φ1 → RelW K B1 φ1 W H → rdS W d = some l → ∃ xs, SqL K H a xs ∧ Reps K B1 φ1 l xs := fun {B1 φ1 W H} e1 R c => by
    rcases rdS_kind c with rfl | c
    · exact absurd rfl (nt l)
    obtain ⟨p, xs, e, h1, h2⟩ := rdL_ok R (r.mono e1 _ _) c
    cases e
    exact ⟨xs, h1, h2⟩
  refine ⟨fun i B1 φ1 W H e1 R c hi => ?_, fun i B1 φ1 W H x H' e1 R c y d' hd' => ?_, fun i B1 φ1 W H e1 R c hi => ?_⟩
  · obtain ⟨xs, h1, h2⟩ := rd e1 R c
    exact ⟨xs, xs[i]'(by rw [h2.length]; exact hi), h1, List.getElem?_eq_getElem _⟩
  · obtain ⟨xs, h1, h2⟩ := rd e1 R c
    obtain ⟨rfl, y⟩ := y
    obtain ⟨v, hv, rv⟩ := h2.get hd'
    rw [y xs h1] at hv
    cases hv
    exact ⟨B1, Ext.refl _ _, R, rv⟩
  · obtain ⟨xs, h1, h2⟩ := rd e1 R c
    exact ⟨xs, h1, by rw [h2.length]; omega⟩
theorem itOk_tup {K : PySem.W.Frag} {B : Hp} {φ : List Addr} {a : Addr} {l : List D} {chk : Wd → Prop} (r : Rep K B φ (.tup l) (.ref a)) : ItOk K B φ l chk (Itt K a) := by
  have rd : ∀ {B1 φ1 W H}, Ext B φ B1 φ1 → RelW K B1 φ1 W H → ∃ xs, SqT K H a xs ∧ Reps K B1 φ1 l xs := fun {B1 φ1 W H} e1 R => by
    have r' := r.mono e1 _ _
    simp only [Rep] at r'
    obtain ⟨p, xs, e, h1, h2⟩ := r'
    cases e
    exact ⟨xs, R.sqT h1, h2⟩
  refine ⟨fun i B1 φ1 W H e1 R c hi => ?_, fun i B1 φ1 W H x H' e1 R c y d' hd' => ?_, fun i B1 φ1 W H e1 R c hi => ?_⟩
  · obtain ⟨xs, h1, h2⟩ := rd e1 R
    exact ⟨xs, xs[i]'(by rw [h2.length]; exact hi), h1, List.getElem?_eq_getElem _⟩
  · obtain ⟨xs, h1, h2⟩ := rd e1 R
    obtain ⟨rfl, y⟩ := y
    obtain ⟨v, hv, rv⟩ := h2.get hd'
    rw [y xs h1] at hv
    cases hv
    exact ⟨B1, Ext.refl _ _, R, rv⟩
  · obtain ⟨xs, h1, h2⟩ := rd e1 R
    exact ⟨xs, h1, by rw [h2.length]; omega⟩
theorem itOk_str {K : PySem.W.Frag} {B : Hp} {φ : List Addr} {z : Str} {chk : Wd → Prop} : ItOk K B φ (z.cps.toList.map fun c => .str ⟨#[c]⟩) chk (Its z) := by
  refine ⟨fun i B1 φ1 W H e1 R c hi => ?_, fun i B1 φ1 W H x H' e1 R c y d' hd' => ?_, fun i B1 φ1 W H e1 R c hi => ?_⟩
  · show i < z.cps.size
    simpa using hi
  · obtain ⟨rfl, c, hc, rfl⟩ := y
    rw [List.getElem?_map] at hd'
    have : z.cps.toList[i]? = some c := by simpa using hc
    rw [this] at hd'
    cases hd'
    exact ⟨B1, Ext.refl _ _, R, by simp only [Rep]⟩
  · show z.cps.size ≤ i
    simp at hi
    omega
theorem di_any (he : PE X e (tE X.K WE fe)) : PI X tg e (tIt X.K WE (M.bind fe bIter)) :=
  PI.weak (pi_any he) fun σ H Q h => by
    obtain ⟨B, φ, S, R, run⟩ := h
    refine ⟨B, φ, S, R, run.bind.imp ?_⟩
    rintro x H1 ⟨d, B1, φ1, S1, e1, R1, r1, P, Xx, h1, h2, h3⟩
    have gen : (match rdS S1.W d with
      | some l => P (l, fun W => rdS W d = some l) S1
      | none => False) → (∃ a, x = .ref a ∧ (∃ xs, SqL X.K H1 a xs) ∧ Q (Itl X.K a) H1) ∨ (∃ a, x = .ref a ∧ (∃ xs, SqT X.K H1 a xs) ∧ Q (Itt X.K a) H1) ∨ ∃ z, x = .str z ∧ Q (Its z) H1 := fun g => by
      split at g
      · rename_i l ec
        rcases rdS_kind ec with rfl | ec'
        · have r2 := r1
          simp only [Rep] at r2
          obtain ⟨p, xs, rfl, hp, hr⟩ := r2
          exact .inr (.inl ⟨p, rfl, ⟨xs, R1.w.sqT hp⟩, h2 _ _ _ _ _ _ g (Ext.refl _ _) R1 (itOk_tup r1)⟩)
        · obtain ⟨p, xs, rfl, hp, hr⟩ := rdL_ok R1.w r1 ec'
          refine .inl ⟨p, rfl, ⟨xs, hp⟩, h2 _ _ _ _ _ _ g (Ext.refl _ _) R1 (itOk_list r1 fun m em => ?_)⟩
          subst em
          simp [rdL] at ec'
      · exact g.elim
    cases d with
    | str z =>
      simp only [Rep] at r1
      exact .inr (.inr ⟨z, r1, h2 _ _ _ _ _ _ h1 (Ext.refl _ _) R1 itOk_str⟩)
    | _ => exact gen h1
/-- ranges -/
def rngD (i : Int) (n : Nat) : List D := (List.range n).map fun k => .int (i + (k : Nat))
theorem itOk_rng {K : PySem.W.Frag} {B : Hp} {φ : List Addr} {i : Int} {n : Nat} : ItOk K B φ (rngD i n) (fun _ => True) (Itr i n) := by
  refine ⟨fun i B1 φ1 W H e1 R c hi => ?_, fun j B1 φ1 W H x H' e1 R c y d' hd' => ?_, fun i B1 φ1 W H e1 R c hi => ?_⟩
  · show i < n
    simpa [rngD] using hi
  · obtain ⟨rfl, rfl⟩ := y
    unfold rngD at hd'
    rw [List.getElem?_map] at hd'
    by_cases hj : j < n
    · rw [List.getElem?_range hj] at hd'
      cases hd'
      exact ⟨B1, Ext.refl _ _, R, by simp only [Rep]⟩
    · rw [List.getElem?_eq_none (by simpa using hj)] at hd'
      cases hd'
  · show n ≤ i
    simp [rngD] at hi
    omega
def bRange1 (ds : List D) : M Items := fun S P _ => match ds with
  | [.int j] => -(2 ^ 62) ≤ j ∧ j < 2 ^ 62 ∧ P (rngD 0 j.toNat, fun _ => True) S
  | _ => False
def bRange2 (ds : List D) : M Items := fun S P _ => match ds with
  | [.int i, .int j] => (-(2 ^ 62) ≤ i ∧ i < 2 ^ 62 ∧ -(2 ^ 62) ≤ j ∧ j < 2 ^ 62) ∧ P (rngD i (j - i).toNat, fun _ => True) S
  | _ => False
theorem di_range1 {a : Expr} {ga : M (List D)} {p : Pos} (hm : X.mg "range" = none) (ha : PA X [a] (tA X.K WE ga)) (hg : Gl X "range" := by rfl) (hs : starEach [a] X.env = [(false, eval a X.env)] := by rfl) : PI X tg (.Call (.Name "range" p) [a] [] pos) (tIt X.K WE (M.bind ga bRange1)) :=
  PI.weak (pi_range1 hg hm ha hs) fun σ H Q h => by
    obtain ⟨B, φ, S, R, run⟩ := h
    refine ⟨B, φ, S, R, run.bind.imp ?_⟩
    rintro xs H1 ⟨ds, B1, φ1, S1, e1, R1, r1, P, Xx, h1, h2, h3⟩
    unfold bRange1 at h1
    split at h1
    · rename_i j
      obtain ⟨v, rfl, rv⟩ := one_inv r1
      simp only [Rep] at rv
      subst rv
      exact ⟨j, rfl, h1.1, h1.2.1, h2 _ _ _ _ _ _ h1.2.2 (Ext.refl _ _) R1 itOk_rng⟩
    · exact h1.elim
theorem di_range2 {a b : Expr} {ga : M (List D)} {p : Pos} (hm : X.mg "range" = none) (ha : PA X [a, b] (tA X.K WE ga)) (hg : Gl X "range" := by rfl) (hs : starEach [a, b] X.env = [(false, eval a X.env), (false, eval b X.env)] := by rfl) (hs2 : starEach [b] X.env = [(false, eval b X.env)] := by rfl) :
    PI X tg (.Call (.Name "range" p) [a, b] [] pos) (tIt X.K WE (M.bind ga bRange2)) :=
  PI.weak (pi_range2 hg hm ha hs hs2) fun σ H Q h => by
    obtain ⟨B, φ, S, R, run⟩ := h
    refine ⟨B, φ, S, R, run.bind.imp ?_⟩
    rintro xs H1 ⟨ds, B1, φ1, S1, e1, R1, r1, P, Xx, h1, h2, h3⟩
    unfold bRange2 at h1
    split at h1
    · rename_i i j
      obtain ⟨v, u, rfl, rv, ru⟩ := two_inv r1
      simp only [Rep] at rv ru
      subst rv; subst ru
      exact ⟨i, j, rfl, h1.1, h2 _ _ _ _ _ _ h1.2 (Ext.refl _ _) R1 itOk_rng⟩
    · exact h1.elim
/-- enumerate -/
def enumD : Nat → List D → List D
  | _, [] => []
  | n, d :: l => .tup [.int (n : Nat), d] :: enumD (n + 1) l
theorem enumD_get : ∀ (n : Nat) (l : List D) (i : Nat), (enumD n l)[i]? = (l[i]?).map fun d => .tup [.int ((n + i : Nat) : Int), d]
  | n, [], i => by simp [enumD]
  | n, d :: l, 0 => by simp [enumD]
  | n, d :: l, i + 1 => by
    simp only [enumD, List.getElem?_cons_succ]
    rw [enumD_get (n + 1) l i]
    have : n + 1 + i = n + (i + 1) := by omega
    rw [this]
theorem enumD_len : ∀ (n : Nat) (l : List D), (enumD n l).length = l.length
  | n, [] => rfl
  | n, d :: l => by simp [enumD, enumD_len (n + 1) l]
def bEnum (ds : List D) : M Items := fun S P _ => match ds with
  | [d] => (match rdL S.W d with
    | some l => P (enumD 0 l, fun W => rdL W d = some l) S
    | none => False)
  | _ => False
theorem itOk_enum {K : PySem.W.Frag} {B : Hp} {φ : List Addr} {d : D} {a : Addr} {l : List D} (r : Rep K B φ d (.ref a)) : ItOk K B φ (enumD 0 l) (fun W => rdL W d = some l) (Ite K a) := by
  have rd : ∀ {B1 φ1 W H}, Ext B φ B1 φ1 → RelW K B1 φ1 W H → rdL W d = some l → ∃ xs, SqL K H a xs ∧ Reps K B1 φ1 l xs := fun {B1 φ1 W H} e1 R c => by
    obtain ⟨p, xs, e, h1, h2⟩ := rdL_ok R (r.mono e1 _ _) c
    cases e
    exact ⟨xs, h1, h2⟩
  refine ⟨fun i B1 φ1 W H e1 R c hi => ?_, fun i B1 φ1 W H x H' e1 R c y d' hd' => ?_, fun i B1 φ1 W H e1 R c hi => ?_⟩
  · obtain ⟨xs, h1, h2⟩ := rd e1 R c
    rw [enumD_len] at hi
    exact ⟨xs, xs[i]'(by rw [h2.length]; exact hi), h1, List.getElem?_eq_getElem _⟩
  · obtain ⟨xs, h1, h2⟩ := rd e1 R c
    obtain ⟨T, x, rfl, hT, rfl, y⟩ := y
    rw [enumD_get, Option.map_eq_some_iff] at hd'
    obtain ⟨d0, e0, rfl⟩ := hd'
    obtain ⟨v, hv, rv⟩ := h2.get e0
    rw [y xs h1] at hv
    cases hv
    obtain ⟨w, e⟩ := R.frz (o := .tup [.int (i : Nat), x]) hT
    refine ⟨_, e, w, ?_⟩
    simp only [Rep]
    refine ⟨T, _, rfl, SqT.of upd_same, Reps.cons (by simp only [Rep]; simp) (Reps.cons (rv.mono e _ _) Reps.nil)⟩
  · obtain ⟨xs, h1, h2⟩ := rd e1 R c
    rw [enumD_len] at hi
    exact ⟨xs, h1, by rw [h2.length]; omega⟩
theorem di_enum {a : Expr} {ga : M (List D)} {p tpos : Pos} {elts : List Expr} {kk : Nat} (hm : X.mg "enumerate" = none) (ha : PA X [a] (tA X.K WE ga)) (hg : Gl X "enumerate" := by rfl) (hs : starEach [a] X.env = [(false, eval a X.env)] := by rfl) :
    PI X (.Tuple elts kk tpos) (.Call (.Name "enumerate" p) [a] [] pos) (tIt X.K WE (M.bind ga bEnum)) :=
  PI.weak (pi_enum hg hm ha hs) fun σ H Q h => by
    obtain ⟨B, φ, S, R, run⟩ := h
    refine ⟨B, φ, S, R, run.bind.imp ?_⟩
    rintro xs H1 ⟨ds, B1, φ1, S1, e1, R1, r1, P, Xx, h1, h2, h3⟩
    unfold bEnum at h1
    split at h1
    · rename_i d
      obtain ⟨v, rfl, rv⟩ := one_inv r1
      split at h1
      · rename_i l el
        obtain ⟨p, xs, rfl, hp, hr⟩ := rdL_ok R1.w rv el
        exact ⟨p, xs, rfl, hp, h2 _ _ _ _ _ _ h1 (Ext.refl _ _) R1 (itOk_enum rv)⟩
      · exact h1.elim
    · exact h1.elim
/-- zip of two lists -/
def zipD : List D → List D → List D
  | a :: l, b :: m => .tup [a, b] :: zipD l m
  | _, _ => []
theorem zipD_get : ∀ (l m : List D) (i : Nat), (zipD l m)[i]? = match l[i]?, m[i]? with
    | some a, some b => some (.tup [a, b])
    | _, _ => none
  | [], m, i => by simp [zipD]
  | a :: l, [], i => by
    simp only [zipD, List.getElem?_nil]
    split <;> simp_all
  | a :: l, b :: m, 0 => by simp [zipD]
  | a :: l, b :: m, i + 1 => by
    simp only [zipD, List.getElem?_cons_succ]
    exact zipD_get l m i
theorem zipD_len : ∀ (l m : List D), (zipD l m).length = min l.length m.length
  | [], m => by simp [zipD]
  | a :: l, [] => by simp [zipD]
  | a :: l, b :: m => by simp only [zipD, List.length_cons, zipD_len l m]; omega
def bZip2 (ds : List D) : M Items := fun S P _ => match ds with
  | [d, e] => (match rdL S.W d, rdL S.W e with
    | some l, some m => P (zipD l m, fun W => rdL W d = some l ∧ rdL W e = some m) S
    | _, _ => False)
  | _ => False
theorem itOk_zip {K : PySem.W.Frag} {B : Hp} {φ : List Addr} {d d2 : D} {a b : Addr} {l m : List D} (r : Rep K B φ d (.ref a)) (r2 : Rep K B φ d2 (.ref b)) : ItOk K B φ (zipD l m) (fun W => rdL W d = some l ∧ rdL W d2 = some m) (Itz K a b) := by
  have rd : ∀ {B1 φ1 W H} {d : D} {a : Addr} {l : List D}, Rep K B φ d (.ref a) → Ext B φ B1 φ1 → RelW K B1 φ1 W H → rdL W d = some l → ∃ xs, SqL K H a xs ∧ Reps K B1 φ1 l xs := fun {B1 φ1 W H d a l} r e1 R c => by
    obtain ⟨p, xs, e, h1, h2⟩ := rdL_ok R (r.mono e1 _ _) c
    cases e
    exact ⟨xs, h1, h2⟩
  refine ⟨fun i B1 φ1 W H e1 R c hi => ?_, fun i B1 φ1 W H x H' e1 R c y d' hd' => ?_, fun i B1 φ1 W H e1 R c hi => ?_⟩
  · obtain ⟨xs, h1, h2⟩ := rd r e1 R c.1
    obtain ⟨ys, h3, h4⟩ := rd r2 e1 R c.2
    rw [zipD_len] at hi
    exact ⟨xs, ys, xs[i]'(by rw [h2.length]; omega), ys[i]'(by rw [h4.length]; omega), h1, h3, List.getElem?_eq_getElem _, List.getElem?_eq_getElem _⟩
  · obtain ⟨xs, h1, h2⟩ := rd r e1 R c.1
    obtain ⟨ys, h3, h4⟩ := rd r2 e1 R c.2
    obtain ⟨T, x, y', rfl, hT, rfl, y1, y2⟩ := y
    rw [zipD_get] at hd'
    split at hd'
    · rename_i da db ea eb
      cases hd'
      obtain ⟨v, hv, rv⟩ := h2.get ea
      obtain ⟨u, hu, ru⟩ := h4.get eb
      rw [y1 xs h1] at hv
      cases hv
      rw [y2 ys h3] at hu
      cases hu
      obtain ⟨w, e⟩ := R.frz (o := .tup [x, y']) hT
      refine ⟨_, e, w, ?_⟩
      simp only [Rep]
      exact ⟨T, _, rfl, SqT.of upd_same, Reps.cons (rv.mono e _ _) (Reps.cons (ru.mono e _ _) Reps.nil)⟩
    · cases hd'
  · obtain ⟨xs, h1, h2⟩ := rd r e1 R c.1
    obtain ⟨ys, h3, h4⟩ := rd r2 e1 R c.2
    rw [zipD_len] at hi
    refine ⟨xs, ys, h1, h3, ?_⟩
    rw [h2.length, h4.length]
    omega
theorem di_zip2 {a b : Expr} {ga : M (List D)} {p tpos : Pos} {elts : List Expr} {kk : Nat} (hm : X.mg "zip" = none) (ha : PA X [a, b] (tA X.K WE ga)) (hg : Gl X "zip" := by rfl)
    (hs : starEach [a, b] X.env = (false, eval a X.env) :: starEach [b] X.env := by rfl) (hpl : (backTo pos (starEach [b] X.env)).any (·.1) = false := by rfl) : PI X (.Tuple elts kk tpos) (.Call (.Name "zip" p) [a, b] [] pos) (tIt X.K WE (M.bind ga bZip2)) :=
  PI.weak (pi_zip hg hm ha hs hpl) fun σ H Q h => by
    obtain ⟨B, φ, S, R, run⟩ := h
    refine ⟨B, φ, S, R, run.bind.imp ?_⟩
    rintro xs H1 ⟨ds, B1, φ1, S1, e1, R1, r1, P, Xx, h1, h2, h3⟩
    unfold bZip2 at h1
    split at h1
    · rename_i d d2
      obtain ⟨v, u, rfl, rv, ru⟩ := two_inv r1
      split at h1
      · rename_i l m el em
        obtain ⟨p, xs, rfl, hp, hr⟩ := rdL_ok R1.w rv el
        obtain ⟨p2, ys, rfl, hp2, hr2⟩ := rdL_ok R1.w ru em
        exact ⟨p, p2, xs, ys, rfl, hp, hp2, h2 _ _ _ _ _ _ h1 (Ext.refl _ _) R1 (itOk_zip rv ru)⟩
      · exact h1.elim
    · exact h1.elim
/-- reversed(list) -/
def bRev (ds : List D) : M Items := fun S P _ => match ds with
  | [d] => (match rdL S.W d with
    | some l => P (l.reverse, fun W => rdL W d = some l) S
    | none => False)
  | _ => False
theorem itOk_rev {K : PySem.W.Frag} {B : Hp} {φ : List Addr} {d : D} {a : Addr} {l : List D} (r : Rep K B φ d (.ref a)) : ItOk K B φ l.reverse (fun W => rdL W d = some l) (Itv K a l.length) := by
  have rd : ∀ {B1 φ1 W H}, Ext B φ B1 φ1 → RelW K B1 φ1 W H → rdL W d = some l → ∃ xs, SqL K H a xs ∧ Reps K B1 φ1 l xs := fun {B1 φ1 W H} e1 R c => by
    obtain ⟨p, xs, e, h1, h2⟩ := rdL_ok R (r.mono e1 _ _) c
    cases e
    exact ⟨xs, h1, h2⟩
  refine ⟨fun i B1 φ1 W H e1 R c hi => ?_, fun i B1 φ1 W H x H' e1 R c y d' hd' => ?_, fun i B1 φ1 W H e1 R c hi => ?_⟩
  · obtain ⟨xs, h1, h2⟩ := rd e1 R c
    rw [List.length_reverse] at hi
    exact ⟨hi, xs, xs[l.length - 1 - i]'(by rw [h2.length]; omega), h1, List.getElem?_eq_getElem _⟩
  · obtain ⟨xs, h1, h2⟩ := rd e1 R c
    obtain ⟨rfl, y⟩ := y
    have hi : i < l.length := by
      have := (List.getElem?_eq_some_iff.mp hd').1
      simpa using this
    rw [List.getElem?_reverse hi] at hd'
    obtain ⟨v, hv, rv⟩ := h2.get hd'
    rw [y xs h1] at hv
    cases hv
    exact ⟨B1, Ext.refl _ _, R, rv⟩
  · show l.length ≤ i
    rw [List.length_reverse] at hi
    omega
theorem di_rev {a : Expr} {ga : M (List D)} {p : Pos} (hm : X.mg "reversed" = none) (ha : PA X [a] (tA X.K WE ga)) (hg : Gl X "reversed" := by rfl) (hs : starEach [a] X.env = [(false, eval a X.env)] := by rfl) : PI X tg (.Call (.Name "reversed" p) [a] [] pos) (tIt X.K WE (M.bind ga bRev)) :=
  PI.weak (pi_reversed hg hm ha hs) fun σ H Q h => by
    obtain ⟨B, φ, S, R, run⟩ := h
    refine ⟨B, φ, S, R, run.bind.imp ?_⟩
    rintro xs H1 ⟨ds, B1, φ1, S1, e1, R1, r1, P, Xx, h1, h2, h3⟩
    unfold bRev at h1
    split at h1
    · rename_i d
      obtain ⟨v, rfl, rv⟩ := one_inv r1
      split at h1
      · rename_i l el
        obtain ⟨p, xs, rfl, hp, hr⟩ := rdL_ok R1.w rv el
        exact ⟨p, xs, rfl, hp, by rw [hr.length]; exact h2 _ _ _ _ _ _ h1 (Ext.refl _ _) R1 (itOk_rev rv)⟩
      · exact h1.elim
    · exact h1.elim
end

/-! ### handles let go -/
mutual
def D.bel (n : Nat) : D → Bool
  | .hnd m => decide (m < n)
  | .tup l => D.bels n l
  | .lst l => D.bels n l
  | .sq l => D.bels n l
  | .dct _ l => D.bels n l
  | _ => true
def D.bels (n : Nat) : List D → Bool
  | [] => true
  | d :: l => D.bel n d && D.bels n l
end
def O.bel (n : Nat) : O → Bool
  | .lst l => D.bels n l
  | .dct _ l => D.bels n l
  | .lck _ _ l => D.bels n l
  | .opq _ _ l => D.bels n l
  | .ins _ fs => D.bels n (fs.map (·.2))
section
variable {K : PySem.W.Frag} {B B1 : Hp} {φ ψ : List Addr}
theorem narrow_hnd {n : Nat} {a : Addr} (h : n < φ.length) (e : (φ ++ ψ)[n]? = some a) : φ[n]? = some a := by rwa [List.getElem?_append_left h] at e
mutual
theorem Rep.narrow : ∀ (d : D) (v : V), d.bel φ.length = true → Rep K B (φ ++ ψ) d v → Rep K B φ d v
  | .non, v, _, h => by simpa only [Rep] using h
  | .bl _, v, _, h => by simpa only [Rep] using h
  | .int _, v, _, h => by simpa only [Rep] using h
  | .str _, v, _, h => by simpa only [Rep] using h
  | .ty _, v, _, h => by simpa only [Rep] using h
  | .gl _, v, _, h => by simpa only [Rep] using h
  | .gb _, v, _, h => by simpa only [Rep] using h
  | .tup l, v, b, h => by
    simp only [Rep] at h ⊢
    obtain ⟨p, xs, h1, h2, h3⟩ := h
    exact ⟨p, xs, h1, h2, Reps.narrow l xs (by simpa only [D.bel] using b) h3⟩
  | .lst l, v, b, h => by
    simp only [Rep] at h ⊢
    obtain ⟨p, xs, h1, h2, h3⟩ := h
    exact ⟨p, xs, h1, h2, Reps.narrow l xs (by simpa only [D.bel] using b) h3⟩
  | .sq l, v, b, h => by
    simp only [Rep] at h ⊢
    obtain ⟨p, xs, h1, h2, h3⟩ := h
    exact ⟨p, xs, h1, h2, Reps.narrow l xs (by simpa only [D.bel] using b) h3⟩
  | .dct ks l, v, b, h => by
    simp only [Rep] at h ⊢
    obtain ⟨p, kvs, h1, h2, h3, h4⟩ := h
    exact ⟨p, kvs, h1, h2, h3, Reps.narrow l _ (by simpa only [D.bel] using b) h4⟩
  | .hnd n, v, b, h => by
    simp only [Rep] at h ⊢
    obtain ⟨a, h1, h2⟩ := h
    exact ⟨a, narrow_hnd (by simpa [D.bel] using b) h1, h2⟩
theorem Reps.narrow : ∀ (l : List D) (xs : List V), D.bels φ.length l = true → Reps K B (φ ++ ψ) l xs → Reps K B φ l xs
  | [], xs, _, h => by simpa only [Reps] using h
  | d :: l, xs, b, h => by
    obtain ⟨x, r, rfl, h1, t⟩ := h.cons_inv
    have b' : d.bel φ.length = true ∧ D.bels φ.length l = true := by simpa [D.bels] using b
    exact Reps.cons (Rep.narrow d x b'.1 h1) (Reps.narrow l r b'.2 t)
end
mutual
theorem Rep.bel : ∀ (d : D) (v : V), Rep K B φ d v → d.bel φ.length = true
  | .non, v, h => by simp only [D.bel]
  | .bl _, v, h => by simp only [D.bel]
  | .int _, v, h => by simp only [D.bel]
  | .str _, v, h => by simp only [D.bel]
  | .ty _, v, h => by simp only [D.bel]
  | .gl _, v, h => by simp only [D.bel]
  | .gb _, v, h => by simp only [D.bel]
  | .tup l, v, h => by
    simp only [Rep] at h
    obtain ⟨p, xs, h1, h2, h3⟩ := h
    simp only [D.bel]
    exact Reps.bel l xs h3
  | .lst l, v, h => by
    simp only [Rep] at h
    obtain ⟨p, xs, h1, h2, h3⟩ := h
    simp only [D.bel]
    exact Reps.bel l xs h3
  | .sq l, v, h => by
    simp only [Rep] at h
    obtain ⟨p, xs, h1, h2, h3⟩ := h
    simp only [D.bel]
    exact Reps.bel l xs h3
  | .dct ks l, v, h => by
    simp only [Rep] at h
    obtain ⟨p, kvs, h1, h2, h3, h4⟩ := h
    simp only [D.bel]
    exact Reps.bel l _ h4
  | .hnd n, v, h => by
    simp only [Rep] at h
    obtain ⟨a, h1, h2⟩ := h
    simp only [D.bel, decide_eq_true_eq]
    exact (List.getElem?_eq_some_iff.mp h1).1
theorem Reps.bel : ∀ (l : List D) (xs : List V), Reps K B φ l xs → D.bels φ.length l = true
  | [], xs, _ => by simp only [D.bels]
  | d :: l, xs, h => by
    obtain ⟨x, r, rfl, h1, t⟩ := h.cons_inv
    simp only [D.bels, Bool.and_eq_true]
    exact ⟨Rep.bel d x h1, Reps.bel l r t⟩
end
theorem ORep.bel {H : Hp} {a : Addr} : ∀ {o : O}, ORep K B φ H a o → o.bel φ.length = true
  | .lst l, ⟨xs, h, r⟩ => Reps.bel l xs r
  | .dct ks l, ⟨kvs, h, k, r⟩ => Reps.bel l _ r
  | .lck od kvs l, ⟨h, r⟩ => Reps.bel l _ r
  | .opq o vs l, ⟨h, r⟩ => Reps.bel l _ r
  | .ins C fs, ⟨dx, fvs, h, k, r⟩ => Reps.bel _ _ r
theorem ORep.narrow {H : Hp} {a : Addr} : ∀ {o : O}, o.bel φ.length = true → ORep K B (φ ++ ψ) H a o → ORep K B φ H a o
  | .lst l, b, ⟨xs, h, r⟩ => ⟨xs, h, Reps.narrow l xs b r⟩
  | .dct ks l, b, ⟨kvs, h, k, r⟩ => ⟨kvs, h, k, Reps.narrow l _ b r⟩
  | .lck od kvs l, b, ⟨h, r⟩ => ⟨h, Reps.narrow l _ b r⟩
  | .opq o vs l, b, ⟨h, r⟩ => ⟨h, Reps.narrow l _ b r⟩
  | .ins C fs, b, ⟨dx, fvs, h, k, r⟩ => ⟨dx, fvs, h, k, Reps.narrow _ _ b r⟩
/-- what stands in the kept world was there, or speaks of its handles alone -/
def Cl (W W0 : Wd) : Prop := ∀ (i : Nat) (o : O), W0[i]? = some o → W[i]? = some o ∨ o.bel W0.length = true
theorem Cl.refl (W : Wd) : Cl W W := fun _ _ h => .inl h
theorem RelW.drop {H H1 : Hp} {W W0 g : Wd} (R : RelW K B φ W H) (R1 : RelW K B1 (φ ++ ψ) (W0 ++ g) H1) (hl : W0.length = W.length) (c : Cl W W0) : RelW K B1 φ W0 H1 := by
  refine ⟨R1.sub, by rw [R.len, hl], fun n a o ha ho => ?_, (List.nodup_append.mp R1.nd).1, fun a ha => R1.off a (List.mem_append_left _ ha)⟩
  have r := R1.obj n a o (by rw [List.getElem?_append_left (List.getElem?_eq_some_iff.mp ha).1]; exact ha) (by rw [List.getElem?_append_left (List.getElem?_eq_some_iff.mp ho).1]; exact ho)
  refine r.narrow ?_
  rcases c n o ho with q | q
  · exact (R.obj n a o ha q).bel
  · rw [R.len, ← hl]; exact q
/-- one of the dropped lists is frozen -/
theorem RelW.frzDrop {H H1 : Hp} {W W0 g : Wd} {k : Nat} {l : List D} {a : Addr} (R : RelW K B φ W H) (R1 : RelW K B1 (φ ++ ψ) (W0 ++ g) H1) (hl : W0.length = W.length) (c : Cl W W0)
    (hk : φ.length ≤ k) (ha : (φ ++ ψ)[k]? = some a) (hg : (W0 ++ g)[k]? = some (.lst l)) (hb : D.bels φ.length l = true) :
    ∃ B2, Ext B1 φ B2 φ ∧ RelW K B2 φ W0 H1 ∧ Rep K B2 φ (.lst l) (.ref a) := by
  obtain ⟨xs, hx, r⟩ := R1.obj k a _ ha hg
  have hn : B1 a = none := R1.off a (List.mem_of_getElem? ha)
  have e : Ext B1 φ (upd B1 a (.lst xs)) φ := ext_frz hn
  have hna : ∀ b ∈ φ, b ≠ a := fun b hb z => by
    subst z
    obtain ⟨n, hn⟩ := List.mem_iff_getElem?.mp hb
    have h1 : (φ ++ ψ)[n]? = some b := by rw [List.getElem?_append_left (List.getElem?_eq_some_iff.mp hn).1]; exact hn
    obtain ⟨i1, e1⟩ := List.getElem?_eq_some_iff.mp h1
    obtain ⟨i2, e2⟩ := List.getElem?_eq_some_iff.mp ha
    have := (List.getElem_inj R1.nd).mp (e1.trans e2.symm)
    have := (List.getElem?_eq_some_iff.mp hn).1
    omega
  have R2 := R.drop R1 hl c
  refine ⟨_, e, ⟨fun b u hu => ?_, R2.len, fun n b o hb ho => (R2.obj n b o hb ho).mono e, R2.nd, fun b hb => ?_⟩, ?_⟩
  · by_cases hba : b = a
    · subst hba
      rw [upd_same] at hu
      cases hu
      exact .inl hx
    · rw [upd_ne hba] at hu
      exact R2.sub b u hu
  · rw [upd_ne (hna b hb)]
    exact R2.off b hb
  · simp only [Rep]
    exact ⟨a, xs, rfl, upd_same, (Reps.narrow l xs hb r).mono e _ _⟩
end
end Tw

set_option Elab.async false
set_option linter.all false
set_option maxRecDepth 100000
set_option maxHeartbeats 4000000
namespace Tw
open PySem PySem.Spec PyProof.Rows L2

/-! ### list comprehensions -/
def wipeA (σ : List (Option D)) : List Nat → List (Option D)
  | [] => σ
  | v :: vs => (wipeA σ vs).set v none
theorem wipeA_length (σ : List (Option D)) : ∀ vs : List Nat, (wipeA σ vs).length = σ.length
  | [] => rfl
  | v :: vs => by unfold wipeA; rw [List.length_set, wipeA_length σ vs]
theorem wipeA_some {σ : List (Option D)} {i : Nat} {d : D} : ∀ {vs : List Nat}, (wipeA σ vs)[i]? = some (some d) → σ[i]? = some (some d) ∧ i ∉ vs
  | [], h => ⟨h, by simp⟩
  | v :: vs, h => by
    unfold wipeA at h
    by_cases hv : v = i
    · subst hv
      rw [List.getElem?_set] at h
      split at h
      · split at h <;> simp at h
      · exact absurd rfl (by assumption)
    · rw [List.getElem?_set_ne hv] at h
      obtain ⟨a, b⟩ := wipeA_some h
      exact ⟨a, by simp [Ne.symm hv, b]⟩
theorem Rel.wipe {K : PySem.W.Frag} {B H : Hp} {φ : List Addr} {S : AS} {σ : L2.St} (R : Rel K B φ S σ H) (vs : List Nat) : Rel K B φ ⟨wipeA S.σ vs, S.W⟩ (wipe σ vs) H := by
  refine ⟨R.w, by rw [wipeA_length, wipe_length]; exact R.len, fun i d h => ?_⟩
  obtain ⟨a, b⟩ := wipeA_some h
  obtain ⟨v, hv, rv⟩ := R.slot i d a
  refine ⟨v, ?_, rv⟩
  rw [wipe_get, if_neg fun z => b z.1]
  exact hv
abbrev NoX : XA := fun _ _ => False
abbrev WE0 : WX := fun _ _ _ _ => False
def lcL (σ0 : List (Option D)) (own : List Nat) (h : Nat) (chk : Wd → Prop) (g : MG) (t : M Bool) (e : M D) : List D → Wd → (Wd → Prop) → Prop
  | [], W, k => k W
  | x :: xs, W, k => g x ⟨wipeA σ0 own, W⟩ fun S1 => t S1 (fun b S2 => if b = true then e S2 (fun d S3 => match S3.W[h]? with
      | some (.lst l) => l.length < sizeLine ∧ chk (S3.W.set h (.lst (l ++ [d]))) ∧ lcL σ0 own h chk g t e xs (S3.W.set h (.lst (l ++ [d]))) k
      | _ => False) NoX else chk S2.W ∧ lcL σ0 own h chk g t e xs S2.W k) NoX
def lcFin (frz : Bool) (S1 : AS) (P : D → AS → Prop) (W : Wd) : Prop :=
  if frz = true then ∃ W0 l, W = W0 ++ [.lst l] ∧ W0.length = S1.W.length ∧ Cl S1.W W0 ∧ D.bels S1.W.length l = true ∧ P (.lst l) ⟨S1.σ, W0⟩
  else P (.hnd S1.W.length) ⟨S1.σ, W⟩
def mLC (frz : Bool) (own : List Nat) (it : M Items) (g : MG) (t : M Bool) (e : M D) : M D := fun S P X =>
  it S (fun a S1 => a.2 (S1.W ++ [.lst []]) ∧ lcL S1.σ own S1.W.length a.2 g t e a.1 (S1.W ++ [.lst []]) (lcFin frz S1 P)) X
def mYes : M Bool := fun S P _ => P true S
section
variable {X : Cx} {WE : WX} {pos : Pos}
theorem lc_ok {frz : Bool} {own : List Nat} {it : M Items} {g : MG} {t : M Bool} {e : M D} {K : PySem.W.Frag} (σ : L2.St) (H : Hp) (Q : VK) (h : tE K WE (mLC frz own it g t e) σ H Q) :
    tLc (tIt K WE it) (tG K own g) (tT K WE0 t) (tE K WE0 e) own σ H Q := by
  obtain ⟨B, φ, S, R, P, Xx, h1, h2, h3⟩ := h
  refine ⟨B, φ, S, R, _, Xx, h1, ?_, h3⟩
  rintro ⟨l, chk⟩ S1 J B1 φ1 H1 ⟨c0, hl⟩ e1 R1 ok
  intro A hA
  obtain ⟨w1, e2⟩ := R1.w.add (o := .lst []) (ho := .lst []) hA ⟨[], upd_same, Reps.nil⟩
  refine ⟨fun i m H => m = l.length - i ∧ i ≤ l.length ∧ ∃ B2 φ2 W2, Ext B1 (φ1 ++ [A]) B2 φ2 ∧ RelW K B2 φ2 W2 H ∧ chk W2 ∧ lcL S1.σ own S1.W.length chk g t e (l.drop i) W2 (lcFin frz S1 P),
    ⟨l.length, by simp, Nat.zero_le _, B1, φ1 ++ [A], _, Ext.refl _ _, w1, c0, hl⟩, ?_⟩
  rintro i m H2 ⟨rfl, hi, B2, φ2, W2, x2, w2, c2, hl2⟩
  have x12 : Ext B1 φ1 B2 φ2 := e2.trans x2
  by_cases hlt : i < l.length
  · refine .inr ⟨ok.go i B2 φ2 W2 H2 x12 w2 c2 hlt, fun H => ∃ B2 φ2 W2, Ext B1 (φ1 ++ [A]) B2 φ2 ∧ RelW K B2 φ2 W2 H ∧ chk W2 ∧ lcL S1.σ own S1.W.length chk g t e (l.drop (i + 1)) W2 (lcFin frz S1 P),
      fun H3 q => ⟨l.length - (i + 1), by omega, rfl, hlt, q⟩, ?_⟩
    intro x H3 y
    obtain ⟨B3, x3, w3, r3⟩ := ok.yld i B2 φ2 W2 H2 x H3 x12 w2 c2 y l[i] (List.getElem?_eq_getElem hlt)
    rw [List.drop_eq_getElem_cons hlt] at hl2
    have R3 : Rel K B3 φ2 ⟨S1.σ, W2⟩ σ H3 := R1.ext (x12.trans x3) w3
    refine ⟨B3, φ2, _, l[i], _, R3.wipe own, r3, hl2, ?_⟩
    intro S4 σ4 B4 φ4 H4 q4 e4 R4 hw
    refine ⟨hw.trans ?_, B4, φ4, S4, R4, _, _, q4, ?_, fun _ _ _ _ _ _ _ z => z.elim⟩
    · apply List.ext_getElem?
      intro j
      rw [wipe_get, wipe_get, wipe_length]
      by_cases hj : j ∈ own ∧ j < σ.length
      · simp [hj]
      · simp [hj]
    rintro b S5 b' B5 φ5 H5 q5 e5 R5 rfl
    cases b' with
    | true =>
      refine iteT ⟨B5, φ5, S5, R5, _, _, q5, ?_, fun _ _ _ _ _ _ _ z => z.elim⟩
      intro d S6 v B6 φ6 H6 q6 e6 R6 r6
      have x16 : Ext B1 (φ1 ++ [A]) B6 φ6 := (((x2.trans x3).trans e4).trans e5).trans e6
      split at q6
      · rename_i l6 hl6
        have hA6 : φ6[S1.W.length]? = some A := x16.hnd (by rw [← R1.w.len, List.getElem?_append_right (Nat.le_refl _)]; simp)
        obtain ⟨a', ha', xs, hx, hr⟩ := R6.w.get hl6
        rw [hA6] at ha'; cases ha'
        refine ⟨xs, hx, by rw [hr.length]; exact q6.1, B6, φ6, _, x16, R6.w.put (o := .lst (l6 ++ [d])) hA6 ⟨xs ++ [v], upd_same, hr.append (Reps.cons r6 Reps.nil)⟩, q6.2.1, q6.2.2⟩
      · exact q6.elim
    | false => exact iteF ⟨B5, φ5, S5.W, ((x2.trans x3).trans e4).trans e5, R5.w, q5.1, q5.2⟩
  · have e : i = l.length := by omega
    subst e
    rw [List.drop_length] at hl2
    refine .inl ⟨ok.stop _ B2 φ2 W2 H2 x12 w2 c2 rfl, ?_⟩
    have hA2 : φ2[S1.W.length]? = some A := x2.hnd (by rw [← R1.w.len, List.getElem?_append_right (Nat.le_refl _)]; simp)
    cases frz with
    | false => exact h2 _ _ _ _ _ _ (show P (.hnd S1.W.length) ⟨S1.σ, W2⟩ from hl2) (e1.trans x12) (R1.ext x12 w2) (by simp only [Rep]; exact ⟨A, hA2, rfl⟩)
    | true =>
      have hl3 : lcFin true S1 P W2 := hl2
      unfold lcFin at hl3
      rw [if_pos rfl] at hl3
      obtain ⟨W0, l0, rfl, hl0, c, hb, hp⟩ := hl3
      obtain ⟨_, ψ, rfl⟩ := id x12
      obtain ⟨B5, x5, w5, r5⟩ := R1.w.frzDrop w2 hl0 c (k := S1.W.length) (l := l0) (a := A) (by rw [R1.w.len]; exact Nat.le_refl _) hA2 (by rw [← hl0, List.getElem?_append_right (Nat.le_refl _)]; simp) (by rw [R1.w.len]; exact hb)
      have x15 : Ext B1 φ1 B5 φ1 := ⟨fun a o z => x5.1 a o (x12.1 a o z), [], by simp⟩
      exact h2 _ _ _ _ _ _ hp (e1.trans x15) (R1.ext x15 w5) r5
theorem dts_nil : PTs X [] (tT X.K WE mYes) := ⟨fun pins s σ H Q I ⟨B, φ, S, R, P, Xx, h1, h2, h3⟩ => pts_nil.run pins s σ H Q I (Run.fin h2 (show P true S from h1) R rfl)⟩
theorem dts_one {c : Expr} {t : M Bool} (h : PT X c (tT X.K WE t)) : PTs X [c] (tT X.K WE t) := pts_one h
theorem de_lc {frz : Bool} {elt tg iter : Expr} {ifs : List Expr} {scope : Scope} (own : List (Str × Nat)) {it : M Items} {g : MG} {t : M Bool} {e : M D} (hc : X.calm = true) (hN : X.N.Nodup) (hi : PI X tg iter (tIt X.K WE it)) (ok : BlkOk X.N X.env.scope scope own)
    (hg : ∀ (s : Shared) (H : Hp) (C : Addr) (cl : List (Str × Addr)) (fp : List Addr), PG (X.blk s H scope (compEnvC scope cl C X.env) fp) tg (tG X.K (own.map (·.2)) g))
    (ht : ∀ (s : Shared) (H : Hp) (C : Addr) (cl : List (Str × Addr)) (fp : List Addr), PTs (X.blk s H scope (compEnvC scope cl C X.env) fp) ifs (tT X.K WE0 t))
    (he : ∀ (s : Shared) (H : Hp) (C : Addr) (cl : List (Str × Addr)) (fp : List Addr), PE (X.blk s H scope (compEnvC scope cl C X.env) fp) elt (tE X.K WE0 e)) (hs : ∀ x, foldedSetIterable iter X.env x = pure x := by intro _; rfl) :
    PE X (.ListComp elt [⟨tg, iter, ifs, 0⟩] scope pos) (tE X.K WE (mLC frz (own.map (·.2)) it g t e)) :=
  PE.weak (pe_lc hc hN hi ok hg ht he hs) fun σ H Q h => lc_ok σ H Q h
theorem d_setLc (i : Nat) {frz : Bool} {y : Str} {py : Pos} {elt tg iter : Expr} {ifs : List Expr} {scope : Scope} (own : List (Str × Nat)) {it : M Items} {g : MG} {t : M Bool} {e : M D} {spos : Pos} (hc : X.calm = true) (hN : X.N.Nodup)
    (hsw : swapsWith (.ListComp elt [⟨tg, iter, ifs, 0⟩] scope pos) (some (.Name y py)) spos.line X.env = pure true) (hi : PI X tg iter (tIt X.K WE it)) (ok : BlkOk X.N X.env.scope scope own)
    (hg : ∀ (s : Shared) (H : Hp) (C : Addr) (cl : List (Str × Addr)) (fp : List Addr), PG (X.blk s H scope (compEnvC scope cl C X.env) fp) tg (tG X.K (own.map (·.2)) g))
    (ht : ∀ (s : Shared) (H : Hp) (C : Addr) (cl : List (Str × Addr)) (fp : List Addr), PTs (X.blk s H scope (compEnvC scope cl C X.env) fp) ifs (tT X.K WE0 t))
    (he : ∀ (s : Shared) (H : Hp) (C : Addr) (cl : List (Str × Addr)) (fp : List Addr), PE (X.blk s H scope (compEnvC scope cl C X.env) fp) elt (tE X.K WE0 e)) (hy : X.N[i]? = some y := by rfl) (hyl : X.env.scope.names.lookup y = some .local := by rfl) (hs : ∀ x, foldedSetIterable iter X.env x = pure x := by intro _; rfl) :
    PS X (.Assign [.Name y py] (.ListComp elt [⟨tg, iter, ifs, 0⟩] scope pos) spos) (tS X.K WE (sSet i (mLC frz (own.map (·.2)) it g t e))) :=
  PS.weak (ps_setLc hc hN hy hyl hsw hi ok hg ht he hs) fun D σ H ⟨B, φ, S, R, run⟩ => by
    have h : tE X.K WE (mLC frz (own.map (·.2)) it g t e) σ H fun v H1 => D.nx (σ.set i (some v)) H1 := by
      refine ⟨B, φ, S, R, (RunS.expr (g := fun d S1 E => E.nx ⟨S1.σ.set i (some d), S1.W⟩) run).imp ?_⟩
      rintro v H1 ⟨d, B1, φ1, S1, e1, R1, r1, E, h, hn, _⟩
      exact hn _ _ _ _ _ h (Ext.refl _ _) (R1.set r1)
    exact lc_ok σ H _ h
end

/-! ### functions -/
abbrev FC := List D → Wd → (D → Wd → Prop) → (Exn → Wd → Prop) → Prop
def spOf (K : PySem.W.Frag) (c : FC) : Sp := fun vs H Q E => ∃ B φ W ds P X, RelW K B φ W H ∧ Reps K B φ ds vs ∧ c ds W P X ∧
  (∀ d W' v B' φ' H', P d W' → Ext B φ B' φ' → RelW K B' φ' W' H' → Rep K B' φ' d v → Q v H') ∧
  ∀ x W' cls dd B' φ' H', X x W' → Ext B φ B' φ' → RelW K B' φ' W' H' → RepX K B' φ' x cls dd → E cls dd H'
/-- what a return may hand on: as it is, or frozen, or a list of one's own; what was made meanwhile is let go -/
def Done (W : Wd) (P : D → Wd → Prop) (d : D) (W1 : Wd) : Prop :=
  P d W1 ∨ (∃ W0 g, W1 = W0 ++ g ∧ W0.length = W.length ∧ Cl W W0 ∧ ((d.bel W.length = true ∧ P d W0) ∨
    ∃ k l, d = .hnd k ∧ W.length ≤ k ∧ W1[k]? = some (.lst l) ∧ D.bels W.length l = true ∧ (P (.lst l) W0 ∨ P (.hnd W.length) (W0 ++ [.lst l]))))
def Exn.bel (n : Nat) (x : Exn) : Bool := match x.fs with
  | none => true
  | some fs => D.bels n (fs.map (·.2))
def DoneX (W : Wd) (X : Exn → Wd → Prop) (x : Exn) (W1 : Wd) : Prop := X x W1 ∨ ∃ W0 g, W1 = W0 ++ g ∧ W0.length = W.length ∧ Cl W W0 ∧ x.bel W.length = true ∧ X x W0
/-- .. a list of one's own, the others let go: the handle moves up -/
theorem RelW.ownDrop {K : PySem.W.Frag} {B B1 H H1 : Hp} {φ ψ : List Addr} {W W0 g : Wd} {k : Nat} {l : List D} {a : Addr} (R : RelW K B φ W H) (R1 : RelW K B1 (φ ++ ψ) (W0 ++ g) H1) (hl : W0.length = W.length) (c : Cl W W0)
    (hk : φ.length ≤ k) (ha : (φ ++ ψ)[k]? = some a) (hg : (W0 ++ g)[k]? = some (.lst l)) (hb : D.bels φ.length l = true) :
    RelW K B1 (φ ++ [a]) (W0 ++ [.lst l]) H1 := by
  obtain ⟨xs, hx, r⟩ := R1.obj k a _ ha hg
  have R2 := R.drop R1 hl c
  have hna : a ∉ φ := fun hb => by
    obtain ⟨n, hn⟩ := List.mem_iff_getElem?.mp hb
    have h1 : (φ ++ ψ)[n]? = some a := by rw [List.getElem?_append_left (List.getElem?_eq_some_iff.mp hn).1]; exact hn
    obtain ⟨i1, e1⟩ := List.getElem?_eq_some_iff.mp h1
    obtain ⟨i2, e2⟩ := List.getElem?_eq_some_iff.mp ha
    have := (List.getElem_inj R1.nd).mp (e1.trans e2.symm)
    have := (List.getElem?_eq_some_iff.mp hn).1
    omega
  have e : Ext B1 φ B1 (φ ++ [a]) := ext_add [a]
  refine ⟨R1.sub, by simp [R2.len], fun n b o hn ho => ?_, ?_, fun b hb => ?_⟩
  · by_cases hlt : n < φ.length
    · rw [List.getElem?_append_left hlt] at hn
      rw [List.getElem?_append_left (by rw [← R2.len]; exact hlt)] at ho
      exact (R2.obj n b o hn ho).mono e
    · have h1 : n < (φ ++ [a]).length := (List.getElem?_eq_some_iff.mp hn).1
      have h2 : n = φ.length := by simp at h1; omega
      subst h2
      rw [List.getElem?_append_right (Nat.le_refl _)] at hn
      rw [R2.len, List.getElem?_append_right (Nat.le_refl _)] at ho
      simp at hn ho
      subst hn; subst ho
      exact ⟨xs, hx, (Reps.narrow l xs hb r).mono e _ _⟩
  · rw [List.nodup_append]
    refine ⟨R2.nd, by simp, fun b hb d hd => ?_⟩
    simp at hd; subst hd
    exact ne_mem hb hna
  · rcases List.mem_append.mp hb with q | q
    · exact R2.off b q
    · simp at q; subst q
      exact R1.off b (List.mem_of_getElem? ha)
theorem done_ok {K : PySem.W.Frag} {B B1 H H1 : Hp} {φ φ1 : List Addr} {W W1 : Wd} {P : D → Wd → Prop} {Q : VK} {d : D} {v : V} (R : RelW K B φ W H) (hq : ∀ d W' v B' φ' H', P d W' → Ext B φ B' φ' → RelW K B' φ' W' H' → Rep K B' φ' d v → Q v H')
    (h : Done W P d W1) (e : Ext B φ B1 φ1) (R1 : RelW K B1 φ1 W1 H1) (r : Rep K B1 φ1 d v) : Q v H1 := by
  rcases h with h | ⟨W0, g, rfl, hl, c, h⟩
  · exact hq _ _ _ _ _ _ h e R1 r
  · obtain ⟨eB, ψ, rfl⟩ := id e
    have e0 : Ext B φ B1 φ := ⟨eB, [], by simp⟩
    rcases h with ⟨hb, hp⟩ | ⟨k, l, rfl, hk, hg, hb, h⟩
    · rw [← R.len] at hb
      exact hq _ _ _ _ _ _ hp e0 (R.drop R1 hl c) (Rep.narrow d v hb r)
    · simp only [Rep] at r
      obtain ⟨a, ha, rfl⟩ := r
      rw [← R.len] at hk hb
      rcases h with hp | hp
      · obtain ⟨B2, e2, w2, r2⟩ := R.frzDrop R1 hl c hk ha hg hb
        exact hq _ _ _ _ _ _ hp (e0.trans e2) w2 r2
      · exact hq _ _ _ _ _ _ hp (e0.trans (ext_add [a])) (R.ownDrop R1 hl c hk ha hg hb) (by
          simp only [Rep]
          exact ⟨a, by rw [← R.len, List.getElem?_append_right (Nat.le_refl _)]; simp, rfl⟩)
theorem doneX_ok {K : PySem.W.Frag} {B B1 H H1 : Hp} {φ φ1 : List Addr} {W W1 : Wd} {X : Exn → Wd → Prop} {E : XK} {x : Exn} {cls : Value} {dd : Option Addr} (R : RelW K B φ W H)
    (hq : ∀ x W' cls dd B' φ' H', X x W' → Ext B φ B' φ' → RelW K B' φ' W' H' → RepX K B' φ' x cls dd → E cls dd H')
    (h : DoneX W X x W1) (e : Ext B φ B1 φ1) (R1 : RelW K B1 φ1 W1 H1) (r : RepX K B1 φ1 x cls dd) : E cls dd H1 := by
  rcases h with h | ⟨W0, g, rfl, hl, c, hb, h⟩
  · exact hq _ _ _ _ _ _ _ h e R1 r
  · obtain ⟨eB, ψ, rfl⟩ := id e
    have e0 : Ext B φ B1 φ := ⟨eB, [], by simp⟩
    refine hq _ _ _ _ _ _ _ h e0 (R.drop R1 hl c) ?_
    obtain ⟨xc, fs⟩ := x
    obtain ⟨h1, h2⟩ := r
    refine ⟨h1, ?_⟩
    cases fs with
    | none => exact h2
    | some fs =>
      obtain ⟨dd', fvs, a, b, c', g'⟩ := h2
      have hb' : D.bels W.length (fs.map (·.2)) = true := hb
      rw [← R.len] at hb'
      exact ⟨dd', fvs, a, b, c', Reps.narrow _ _ hb' g'⟩
def startA (n : Nat) (ds : List D) : List (Option D) := ds.map some ++ List.replicate (n - ds.length) none
def fEnds (W : Wd) (P : D → Wd → Prop) (X : Exn → Wd → Prop) : AEnds := ⟨fun S => Done W P .non S.W, fun d S => Done W P d S.W, fun _ => False, fun _ => False, fun x S => DoneX W X x S.W⟩
theorem start_rel {K : PySem.W.Frag} {B H : Hp} {φ : List Addr} {W : Wd} {ds : List D} {vs : List V} {N : List Str} (R : RelW K B φ W H) (r : Reps K B φ ds vs) : Rel K B φ ⟨startA N.length ds, W⟩ (L2.start N vs) H := by
  refine ⟨R, by unfold startA L2.start; simp [r.length], fun i d h => ?_⟩
  unfold startA at h
  have hi : i < ds.length := by
    by_cases hi : i < ds.length
    · exact hi
    · rw [List.getElem?_append_right (by simpa using hi), List.getElem?_replicate] at h
      split at h <;> simp at h
  rw [List.getElem?_append_left (by simpa using hi), List.getElem?_map, Option.map_eq_some_iff] at h
  obtain ⟨d', h1, h2⟩ := h
  cases h2
  obtain ⟨v, hv, rv⟩ := r.get h1
  refine ⟨v, ?_, rv⟩
  unfold L2.start
  rw [List.getElem?_append_left (by rw [List.length_map, r.length]; exact hi), List.getElem?_map, hv]
  rfl
section
variable {P : Program} {w : World} {K : PySem.W.Frag} {mg : Str → Option Value} {base : Heap}
abbrev bodyCx (P : Program) (w : World) (K : PySem.W.Frag) (mg : Str → Option Value) (base : Heap) (N : List Str) (qual : Str) (st : Stmt) (f : Addr) (cdv : Value) (A : Around) (outer : List Env) (s : Shared) (H : Hp) (E : XK) : Cx :=
  cxOf (L2.CX P w) P w K mg base N qual (defScope st) f cdv A outer s H E
abbrev wOf (E : XK) : WX := fun cls d _ H => E cls d H
theorem fnD {x qual : Str} {st : Stmt} {f : Addr} {fd : FuncData} {N ps : List Str} {k : Nat} {c : FC} {fb : MS} (F : FunD K x qual (defArgs st) (defBody st) (defScope st) [] [] f fd) (S : FnScope N ps (defScope st)) (hl : ∀ ds W P X, c ds W P X → ds.length = ps.length)
    (body : ∀ (cdv : Value) (A : Around) (outer : List Env) (s : Shared) (H : Hp) (E : XK), Room k (bodyCx P w K mg base N qual st f cdv A outer s H E).A → Takes (bodyCx P w K mg base N qual st f cdv A outer s H E) (wOf E) →
      PSs (bodyCx P w K mg base N qual st f cdv A outer s H E) (defBody st) (tS K (wOf E) fb))
    (pure : ∀ ds W P X, c ds W P X → fb ⟨startA N.length ds, W⟩ (fEnds W P X)) : FnOk P w K mg base (L2.CX P w) (k + 1) f fd ps (spOf K c) := by
  refine F.ok S (fun vs H Q E h => ?_) (fun cdv A outer s H vs Q E hr h => ⟨_, body cdv A outer s H E hr (takes_of rfl rfl rfl rfl), ?_⟩)
  · obtain ⟨B, φ, W, ds, P, X, R, r, h, _⟩ := h
    rw [r.length]
    exact hl _ _ _ _ h
  · obtain ⟨B, φ, W, ds, P, X, R, r, h, h1, h2⟩ := h
    refine ⟨B, φ, _, start_rel R r, _, pure ds W P X h, ?_, ?_, ?_, ?_, ?_⟩
    · intro S' σ' B' φ' H' q e R'
      exact done_ok R h1 q e R'.w (by simp only [Rep])
    · intro a S' σ' v B' φ' H' q e R' r'
      exact done_ok R h1 q e R'.w r'
    · intro S' σ' B' φ' H' q
      exact q.elim
    · intro S' σ' B' φ' H' q
      exact q.elim
    · intro x S' σ' cls d B' φ' H' q e R' r'
      exact doneX_ok R h2 q e R'.w r'
end
/-- a weaker (or another) promise -/
theorem FnOk.cons {P : Program} {w : World} {K : PySem.W.Frag} {mg : Str → Option Value} {base : Heap} {CX : CXT} {k : Nat} {f : Addr} {fd : FuncData} {ps : List Str} {c c' : FC} (F : FnOk P w K mg base CX k f fd ps (spOf K c))
    (h : ∀ ds W P X, c' ds W P X → c ds W P X) : FnOk P w K mg base CX k f fd ps (spOf K c') :=
  F.imp fun vs H Q E ⟨B, φ, W, ds, P, X, R, r, q, h1, h2⟩ => ⟨B, φ, W, ds, P, X, R, r, h ds W P X q, h1, h2⟩

/-! ### calls -/
def mCall (c : FC) (ga : M (List D)) : M D := M.bind ga fun ds S P X => c ds S.W (fun d W => P d ⟨S.σ, W⟩) (fun x W => X x ⟨S.σ, W⟩)
section
variable {X : Cx} {WE : WX} {x m : Str} {p pos apos : Pos} {e o : Expr} {es : List Expr} {ga : M (List D)} {fo : M D}
theorem spOf_of {K : PySem.W.Frag} {c : FC} {B H : Hp} {φ : List Addr} {S : AS} {σ : L2.St} {ds : List D} {vs : List V} {Q : VK} (R : Rel K B φ S σ H) (r : Reps K B φ ds vs)
    (q : RRun K WE (fun S P X => c ds S.W (fun d W => P d ⟨S.σ, W⟩) (fun x W => X x ⟨S.σ, W⟩)) B φ S σ H Q) : spOf K c vs H Q (L2.WE WE σ) := by
  obtain ⟨P, Xx, h1, h2, h3⟩ := q
  refine ⟨B, φ, S.W, ds, _, _, R.w, r, h1, ?_, ?_⟩
  · intro d W' v B' φ' H' hp e w r'
    exact h2 _ _ _ _ _ _ hp e (R.ext e w) r'
  · intro x W' cls dd B' φ' H' hp e w r'
    exact h3 _ _ _ _ _ _ _ hp e (R.ext e w) r'
theorem de_call {k : Nat} {f : Addr} {fd : FuncData} {ps : List Str} {c : FC} (F : FnOk X.prog X.w X.K X.mg X.base (L2.CX X.prog X.w) k f fd ps (spOf X.K c)) (hr : Room k X.A) (hm : X.mg x = some (.ref f)) (hk : PySem.W.keepIn X.K (.ref f) = true) (hb : Binds X.K fd ps []) (tk : Takes X WE)
    (ha : PA X (e :: es) (tA X.K WE ga)) (hg : Gl X x := by rfl) (hdb : (x == ("__debug__" : Str)) = false := by decide) (he : starEach (e :: es) X.env = (false, eval e X.env) :: starEach es X.env := by rfl) (hpl : (backTo pos (starEach es X.env)).any (·.1) = false := by rfl) :
    PE X (.Call (.Name x p) (e :: es) [] pos) (tE X.K WE (mCall c ga)) :=
  PE.weak (pe_callSD (dvs := []) F hr hg hm hk hb .nil (passAt tk) ha hdb he hpl) fun σ H Q h => by
    obtain ⟨B, φ, S, R, run⟩ := h
    refine ⟨B, φ, S, R, run.bind.imp ?_⟩
    rintro xs H1 ⟨ds, B1, φ1, S1, e1, R1, r1, run1⟩
    rw [List.append_nil]
    exact spOf_of R1 r1 run1
/-- o.m(..), by the class of the receiver -/
structure MethOk (X : Cx) (k : Nat) (m : Str) (C : Str) (c : FC) : Prop where
  ex : ∃ f fd ps, Cls X.K (He.ga X.K C) ∧ Meth X.K (He.ga X.K C) m f ∧ FnOk X.prog X.w X.K X.mg X.base (L2.CX X.prog X.w) k f fd ps (spOf X.K c) ∧ Binds X.K fd ps []
/-- the class of what a handle stands for -/
def isA (W : Wd) (n : Nat) (C : Str) : Prop := ∃ fs, W[n]? = some (.ins C fs)
/-- a promise, for receivers of these classes -/
def recv (U : List Str) (c : FC) : FC := fun ds W P X => (∃ n r C, ds = .hnd n :: r ∧ isA W n C ∧ C ∈ U) ∧ c ds W P X
abbrev Tbl := List (List Str × FC)
def dMeth (m : Str) (tbl : Tbl) (ga : M (List D)) (d : D) : M D := fun S P X => match d with
  | .hnd n => (match S.W[n]? with
    | some (.ins C fs) => fs.lookup m = none ∧ ∃ p, p ∈ tbl ∧ C ∈ p.1 ∧ (M.bind ga fun ds S1 P X => isA S1.W n C ∧ p.2 (.hnd n :: ds) S1.W (fun d W => P d ⟨S1.σ, W⟩) (fun x W => X x ⟨S1.σ, W⟩)) S P X
    | _ => False)
  | _ => False
def mMeth (m : Str) (tbl : Tbl) (fo : M D) (ga : M (List D)) : M D := M.bind fo (dMeth m tbl ga)
theorem lookup_none {fs : List (Str × D)} {m : Str} : ∀ {fvs : List (Str × V)}, fvs.map (·.1) = fs.map (·.1) → fs.lookup m = none → fvs.lookup m = none := fun {fvs} h q => by
  induction fs generalizing fvs with
  | nil =>
    simp at h
    subst h
    rfl
  | cons p fs ih =>
    cases fvs with
    | nil => rfl
    | cons p2 fvs =>
      simp only [List.map_cons, List.cons.injEq] at h
      rw [List.lookup_cons] at q ⊢
      rw [h.1]
      split at q
      · cases q
      · rename_i e
        exact ih h.2 q
theorem meth_core {k : Nat} {C : Str} {U : List Str} {c : FC} (M0 : MethOk X k m C (recv U c)) (hU : C ∈ U) (hr : Room k X.A) (tk : Takes X WE) {pins : List (Addr × Obj)} {s1 : Shared} {σ : L2.St} {H1 : Hp} {B1 : Hp} {φ1 : List Addr} {S1 : AS} {Q : VK} {n : Nat} {fs : List (Str × D)} {u : Value} {xv : V}
    (I1 : Inv X pins σ H1 s1) (R1 : Rel X.K B1 φ1 S1 σ H1) (r1 : Rep X.K B1 φ1 (.hnd n) xv) (rx : RelV xv u) (hw : S1.W[n]? = some (.ins C fs)) (hl : fs.lookup m = none)
    (run : RRun X.K WE (M.bind ga fun ds S1 P X => isA S1.W n C ∧ c (.hnd n :: ds) S1.W (fun d W => P d ⟨S1.σ, W⟩) (fun x W => X x ⟨S1.σ, W⟩)) B1 φ1 S1 σ H1 Q) :
    ∃ a dx fvs f, xv = .ref a ∧ u = .ref a ∧ H1 a = some (.ins (He.ga X.K C) dx fvs) ∧ fvs.lookup m = none ∧ Cls X.K (He.ga X.K C) ∧ Meth X.K (He.ga X.K C) m f ∧
      tA X.K WE ga σ H1 fun vs H2 => ∀ s2 us pins2, Inv X pins2 σ H2 s2 → Vals vs us → wpAny (model X.prog X.w) X.A (call (.ref f) (.ref a :: us)) (EP X pins2 σ Q) X.xe s2 := by
  obtain ⟨f, fd, ps, hc, hm, F, hb⟩ := M0.ex
  have r1' := r1
  simp only [Rep] at r1'
  obtain ⟨a, ha, rfl⟩ := r1'
  obtain ⟨a', ha', dx, fvs, hx, hk, hv⟩ := R1.w.get hw
  rw [ha] at ha'; cases ha'
  refine ⟨a, dx, fvs, f, rfl, rx, hx, lookup_none hk hl, hc, hm, B1, φ1, S1, R1, run.bind.imp ?_⟩
  rintro vs H2 ⟨ds, B2, φ2, S2, e2, R2, r2, run2⟩ s2 us pins2 I2 rv
  have sp : spOf X.K (recv U c) (.ref a :: vs) H2 Q (L2.WE WE σ) := by
    refine spOf_of R2 (Reps.cons (r1.mono e2 _ _) r2) ?_
    obtain ⟨P, Xx, ⟨h0, h1⟩, h2, h3⟩ := run2
    exact ⟨P, Xx, ⟨⟨n, _, C, rfl, h0, hU⟩, h1⟩, h2, h3⟩
  exact run_fnSD (dvs := []) (vs := .ref a :: vs) (us := .ref a :: us) F hr hb .nil (passAt tk σ) I2 (.cons rfl rv) (by rw [List.append_nil]; exact sp)
theorem de_meth {k : Nat} {tbl : Tbl} {pl : Sem Bool} (ho : PE X o (tE X.K WE fo)) (M0 : ∀ p ∈ tbl, ∀ C ∈ p.1, ∃ U, C ∈ U ∧ MethOk X k m C (recv U p.2)) (hr : Room k X.A) (tk : Takes X WE) (ha : PA X (e :: es) (tA X.K WE ga))
    (hst : starEach (e :: es) X.env = (false, eval e X.env) :: starEach es X.env := by rfl) (hpl : (backTo pos (starEach es X.env)).any (·.1) = false := by rfl)
    (ht : eval (.Call (.Attribute o m apos) (e :: es) [] pos) X.env = (do
      let ov ← eval o X.env
      standAt apos.atName
      let (f, first) ← holding [ov] (getMethod ov m pl)
      callWith pos f first (backTo pos (starEach (e :: es) X.env)) (backToKw pos (keywordEach [] X.env))) := by rfl) :
    PE X (.Call (.Attribute o m apos) (e :: es) [] pos) (tE X.K WE (mMeth m tbl fo ga)) := by
  refine ⟨fun pins s σ H Q I h => ?_⟩
  obtain ⟨B, φ, S, R, run⟩ := h
  refine PySem.W.methodCall_KW (pl := pl) (thn (ho.run pins s σ H _ I ⟨B, φ, S, R, run.bind⟩) fun u s1 ⟨x, H1, I1, rx, d, B1, φ1, S1, e1, R1, r1, P, Xx, h1, h2, h3⟩ => ?_) ht
  unfold dMeth at h1
  split at h1
  · rename_i n
    split at h1
    · rename_i C fs hw
      obtain ⟨hl, p, hp, hc, h1⟩ := h1
      obtain ⟨U, hU, MM⟩ := M0 p hp C hc
      obtain ⟨a, dx, fvs, f, rfl, rfl, hx, hlv, hcl, hm, q⟩ := meth_core MM hU hr tk I1 R1 r1 rx hw hl ⟨P, Xx, h1, h2, h3⟩
      refine getmeth_ok I1 hx hcl hm hlv ?_
      refine PySem.W.callWith_K (first := [.ref a]) (h₀ := X.base) I.ok.mod.kin hm.kp (thn (ha.run pos pins s1 σ H1 _ I1 q) fun us s2 ⟨vs, H2, I2, r, q2⟩ => ⟨I2.kIn, ?_⟩) hst hpl
      exact q2 s2 us pins I2 r
    · exact h1.elim
  · exact h1.elim
theorem de_meth0 {k : Nat} {tbl : Tbl} {pl : Sem Bool} (ho : PE X o (tE X.K WE fo)) (M0 : ∀ p ∈ tbl, ∀ C ∈ p.1, ∃ U, C ∈ U ∧ MethOk X k m C (recv U p.2)) (hr : Room k X.A) (tk : Takes X WE)
    (ht : eval (.Call (.Attribute o m apos) [] [] pos) X.env = (do
      let ov ← eval o X.env
      standAt apos.atName
      let (f, first) ← holding [ov] (getMethod ov m pl)
      callWith pos f first (backTo pos (starEach [] X.env)) (backToKw pos (keywordEach [] X.env))) := by rfl) :
    PE X (.Call (.Attribute o m apos) [] [] pos) (tE X.K WE (mMeth m tbl fo mNil)) := by
  refine ⟨fun pins s σ H Q I h => ?_⟩
  obtain ⟨B, φ, S, R, run⟩ := h
  refine PySem.W.methodCall_KW (pl := pl) (thn (ho.run pins s σ H _ I ⟨B, φ, S, R, run.bind⟩) fun u s1 ⟨x, H1, I1, rx, d, B1, φ1, S1, e1, R1, r1, P, Xx, h1, h2, h3⟩ => ?_) ht
  unfold dMeth at h1
  split at h1
  · rename_i n
    split at h1
    · rename_i C fs hw
      obtain ⟨hl, p, hp, hc, h1⟩ := h1
      obtain ⟨U, hU, MM⟩ := M0 p hp C hc
      obtain ⟨a, dx, fvs, f, rfl, rfl, hx, hlv, hcl, hm, q⟩ := meth_core MM hU hr tk I1 R1 r1 rx hw hl ⟨P, Xx, h1, h2, h3⟩
      refine getmeth_ok I1 hx hcl hm hlv ?_
      refine PySem.W.callWith_K0 (first := [.ref a]) I1.kIn hm.kp ?_
      have hq := (da_nil (X := X) (WE := WE)).run pos pins s1 σ H1 _ I1 q
      obtain ⟨B2, φ2, S2, R2, P2, X2, g1, g2, g3⟩ := q
      have : ∀ s2 us pins2, Inv X pins2 σ H1 s2 → Vals [] us → wpAny (model X.prog X.w) X.A (call (.ref f) (.ref a :: us)) (EP X pins2 σ Q) X.xe s2 := g2 [] S2 [] B2 φ2 H1 (show P2 [] S2 from g1) (Ext.refl _ _) R2 Reps.nil
      exact this s1 [] pins I1 .nil
    · exact h1.elim
  · exact h1.elim
/-- fields -/
def dFld (f : Str) (Cs : List Str) (d : D) : M D := fun S P _ => match d with
  | .hnd n => (match S.W[n]? with
    | some (.ins C fs) => C ∈ Cs ∧ (match fs.lookup f with
      | some v => P v S
      | none => False)
    | _ => False)
  | _ => False
theorem lookup_some {K : PySem.W.Frag} {B : Hp} {φ : List Addr} {f : Str} {d : D} : ∀ {fs : List (Str × D)} {fvs : List (Str × V)}, fvs.map (·.1) = fs.map (·.1) → Reps K B φ (fs.map (·.2)) (fvs.map (·.2)) → fs.lookup f = some d → ∃ v, fvs.lookup f = some v ∧ Rep K B φ d v
  | [], fvs, h, r, q => by simp at q
  | p :: fs, [], h, r, q => by simp at h
  | p :: fs, p2 :: fvs, h, r, q => by
    simp only [List.map_cons, List.cons.injEq] at h
    obtain ⟨x, xs, e, r1, r2⟩ := r.cons_inv
    simp only [List.map_cons, List.cons.injEq] at e
    rw [List.lookup_cons] at q ⊢
    rw [h.1]
    split at q
    · cases q
      rename_i e2
      exact ⟨_, rfl, by rw [e.1]; exact r1⟩
    · rename_i e2
      exact lookup_some h.2 (by rw [e.2]; exact r2) q
theorem de_fld {f : Str} {Cs : List Str} (ho : PE X o (tE X.K WE fo)) (hcs : ∀ C ∈ Cs, Cls X.K (He.ga X.K C) ∧ NoAttr X.K (He.ga X.K C) f) (hb : attributeBase o f X.env (eval o X.env) = eval o X.env := by rfl) :
    PE X (.Attribute o f pos) (tE X.K WE (M.bind fo (dFld f Cs))) :=
  PE.weak (pe_fld ho hb) fun σ H Q h => by
    obtain ⟨B, φ, S, R, run⟩ := h
    refine ⟨B, φ, S, R, run.bind.imp ?_⟩
    rintro x H1 ⟨d, B1, φ1, S1, e1, R1, r1, P, Xx, h1, h2, h3⟩
    unfold dFld at h1
    split at h1
    · rename_i n
      split at h1
      · rename_i C fs hw
        obtain ⟨hC, h1⟩ := h1
        split at h1
        · rename_i v hv
          simp only [Rep] at r1
          obtain ⟨a, ha, rfl⟩ := r1
          obtain ⟨a', ha', dx, fvs, hx, hk, hr⟩ := R1.w.get hw
          rw [ha] at ha'; cases ha'
          obtain ⟨v', hv', rv'⟩ := lookup_some hk hr hv
          obtain ⟨c1, c2⟩ := hcs C hC
          exact ⟨a, _, dx, fvs, v', rfl, hx, c1, c2, hv', Run.fin h2 h1 R1 rv'⟩
        · exact h1.elim
      · exact h1.elim
    · exact h1.elim
/-- o.f = e -/
def putFD (f : Str) (v : D) : List (Str × D) → List (Str × D)
  | [] => [(f, v)]
  | (g, x) :: r => if g = f then (g, v) :: r else (g, x) :: putFD f v r
theorem putF_rep {K : PySem.W.Frag} {B : Hp} {φ : List Addr} {f : Str} {d : D} {v : V} (rd : Rep K B φ d v) : ∀ {fs : List (Str × D)} {fvs : List (Str × V)}, fvs.map (·.1) = fs.map (·.1) → Reps K B φ (fs.map (·.2)) (fvs.map (·.2)) →
    (putF f v fvs).map (·.1) = (putFD f d fs).map (·.1) ∧ Reps K B φ ((putFD f d fs).map (·.2)) ((putF f v fvs).map (·.2))
  | [], [], _, _ => ⟨rfl, Reps.cons rd Reps.nil⟩
  | [], _ :: _, h, _ => by simp at h
  | _ :: _, [], h, _ => by simp at h
  | (g, x) :: fs, (g2, y) :: fvs, h, r => by
    simp only [List.map_cons, List.cons.injEq] at h
    obtain ⟨rfl, h⟩ := h
    obtain ⟨y', r', e, r1, r2⟩ := r.cons_inv
    simp only [List.map_cons, List.cons.injEq] at e
    obtain ⟨rfl, rfl⟩ := e
    unfold putF putFD
    split
    · exact ⟨by simp [h], Reps.cons rd r2⟩
    · obtain ⟨a, b⟩ := putF_rep rd h r2
      exact ⟨by simp [a], Reps.cons r1 b⟩
def dPutF (f : Str) (Cs : List Str) (o v : D) (S : AS) (P : AS → Prop) : Prop := match o with
  | .hnd n => (match S.W[n]? with
    | some (.ins C fs) => C ∈ Cs ∧ fs.length < 900 ∧ P ⟨S.σ, S.W.set n (.ins C (putFD f v fs))⟩
    | _ => False)
  | _ => False
def sFld (f : Str) (Cs : List Str) (fo fv : M D) : MS := fun S E => fv S (fun v S1 => fo S1 (fun o S2 => dPutF f Cs o v S2 E.nx) E.ex) E.ex
theorem d_fld {f : Str} {Cs : List Str} {value : Expr} {fv : M D} {pos' : Pos} (ho : PE X o (tE X.K WE fo)) (hv : PE X value (tE X.K WE fv)) (hcs : ∀ C ∈ Cs, Cls X.K (He.ga X.K C) ∧ NoAttr X.K (He.ga X.K C) f) (hs : swapsWith value (some (.Attribute o f pos')) pos.line X.env = pure false := by rfl) :
    PS X (.Assign [.Attribute o f pos'] value pos) (tS X.K WE (Tw.sFld f Cs fo fv)) :=
  PS.weak (ps_fld ho hv hs) fun DD σ H h => by
    obtain ⟨B, φ, S, R, E, h1, hn, hr, hb, hc, hx⟩ := h
    refine ⟨B, φ, S, R, _, _, h1, ?_, fun x S' cls d B' φ' H' => hx x S' σ cls d B' φ' H'⟩
    rintro v S1 y B1 φ1 H1 h1 e1 R1 r1
    refine ⟨B1, φ1, S1, R1, _, _, h1, ?_, fun x S' cls d B' φ' H' a1 a2 a3 => hx x S' σ cls d B' φ' H' a1 (e1.trans a2) a3⟩
    rintro ov S2 x B2 φ2 H2 h2 e2 R2 r2
    unfold dPutF at h2
    split at h2
    · rename_i n
      split at h2
      · rename_i C fs hw
        obtain ⟨hC, hl, h2⟩ := h2
        simp only [Rep] at r2
        obtain ⟨a, ha, rfl⟩ := r2
        obtain ⟨a', ha', dx, fvs, hx', hk, hr'⟩ := R2.w.get hw
        rw [ha] at ha'; cases ha'
        obtain ⟨c1, c2⟩ := hcs C hC
        have hlen : fvs.length = fs.length := by simpa using congrArg List.length hk
        obtain ⟨p1, p2⟩ := putF_rep (f := f) (r1.mono e2 _ _) hk hr'
        refine ⟨a, _, dx, fvs, rfl, hx', c1, c2, by omega, ?_⟩
        refine hn _ σ B2 φ2 _ h2 (e1.trans e2) ⟨R2.w.put (o := .ins C (putFD f v fs)) ha ⟨dx, _, upd_same, p1, p2⟩, R2.len, R2.slot⟩
      · exact h2.elim
    · exact h2.elim
end
end Tw

set_option Elab.async false
set_option linter.all false
set_option maxRecDepth 100000
set_option maxHeartbeats 4000000
namespace Tw
open PySem PySem.Spec PyProof.Rows L2

/-! ### further facts of a text -/
inductive Fx where
  | rd (C : Str)
  | cval (C m : Str)
  | isc (x : Str)
  | one (x y : Str) (b : Bool)
  | oneT (x : Str) (t : String) (b : Bool)
  | mro (x : Str)
  | iso (C : Str)
def Fx.ok (K : PySem.W.Frag) : Fx → Bool
  | .rd C => PySem.W.readsIn K (He.ga K C) (.type "type") && He.eqO (PySem.W.specialIn K (.ref (He.ga K C)) "__getattribute__") (some (some (.builtin "type.__getattribute__")))
  | .cval C m => (match PySem.W.findCls K (.ref (He.ga K C)) (.type "type") m with
    | some (.val (.ref a)) => decide (a = He.ma K (He.ga K C) m)
    | _ => false)
  | .isc x => He.eqO (PySem.W.findIn K (.ref (He.ga K x)) "__getattribute__") (some (some (.builtin "BaseException.__getattribute__"))) && (He.eqO (PySem.W.findIn K (.ref (He.ga K x)) "__getattr__") (some none) &&
    (decide (PySem.W.subIn K (.ref (He.ga K x)) (.type "BaseException") = some true) && (PySem.W.hasDictIn K (He.ga K x) && (He.eqO (PySem.W.findIn K (.ref (He.ga K x)) "__class__") (some (some (.builtin "object.__class__"))) &&
    (He.eqO (PySem.W.specialIn K (.builtin "object.__class__") "__get__") (some (some (.builtin "getset_descriptor.__get__"))) && (decide (PySem.W.takesIn K (.builtin "object.__class__") = some true) && decide (PySem.W.mroIn K (He.ga K x) (.type "object") = some true)))))))
  | .one x y b => decide (PySem.W.kitOne K (.ref (He.ga K x)) (.ref (He.ga K y)) = some b)
  | .oneT x t b => decide (PySem.W.kitOne K (.ref (He.ga K x)) (.type t) = some b)
  | .mro _ => true
  | .iso C => He.eqO (PySem.W.findIn K (.ref (He.ga K C)) "__class__") (some (some (.builtin "object.__class__"))) &&
    (He.eqO (PySem.W.specialIn K (.builtin "object.__class__") "__get__") (some (some (.builtin "getset_descriptor.__get__"))) && (decide (PySem.W.takesIn K (.builtin "object.__class__") = some true) && decide (PySem.W.mroIn K (He.ga K C) (.type "object") = some true)))
/-- what isinstance asks of an own class -/
def IsoC (K : PySem.W.Frag) (C : Addr) : Prop := PySem.W.findIn K (.ref C) "__class__" = some (some (.builtin "object.__class__")) ∧ PySem.W.specialIn K (.builtin "object.__class__") "__get__" = some (some (.builtin "getset_descriptor.__get__")) ∧
  PySem.W.takesIn K (.builtin "object.__class__") = some true ∧ PySem.W.mroIn K C (.type "object") = some true
theorem Fx.iso_ok {K : PySem.W.Frag} {C : Str} (h : (Fx.iso C).ok K = true) : IsoC K (He.ga K C) := by
  obtain ⟨h1, h2⟩ := He.ba h
  obtain ⟨h2, h3⟩ := He.ba h2
  obtain ⟨h3, h4⟩ := He.ba h3
  exact ⟨He.eqO_ok h1, He.eqO_ok h2, of_decide_eq_true h3, of_decide_eq_true h4⟩
theorem Fx.rd_ok {K : PySem.W.Frag} {C : Str} (h : (Fx.rd C).ok K = true) : ClX.CRead K (He.ga K C) (.type "type") := by
  obtain ⟨a, b⟩ := He.ba h
  exact ⟨a, He.eqO_ok b⟩
theorem Fx.cval_ok {K : PySem.W.Frag} {C m : Str} (h : (Fx.cval C m).ok K = true) : ClX.CVal K (He.ga K C) (.type "type") m (.ref (He.ma K (He.ga K C) m)) (.ref (He.ma K (He.ga K C) m)) := by
  refine ⟨?_, rfl⟩
  have h' : (match PySem.W.findCls K (.ref (He.ga K C)) (.type "type") m with
    | some (.val (.ref a)) => decide (a = He.ma K (He.ga K C) m)
    | _ => false) = true := h
  split at h'
  · rename_i a e
    rw [e, of_decide_eq_true h']
  · cases h'
theorem Fx.isc_ok {K : PySem.W.Frag} {x : Str} (h : (Fx.isc x).ok K = true) : ExcC K (He.ga K x) := by
  obtain ⟨a1, h⟩ := He.ba h
  obtain ⟨a2, h⟩ := He.ba h
  obtain ⟨a3, h⟩ := He.ba h
  obtain ⟨a4, h⟩ := He.ba h
  obtain ⟨a5, h⟩ := He.ba h
  obtain ⟨a6, h⟩ := He.ba h
  obtain ⟨a7, a8⟩ := He.ba h
  exact ⟨He.eqO_ok a1, He.eqO_ok a2, of_decide_eq_true a3, a4, He.eqO_ok a5, He.eqO_ok a6, of_decide_eq_true a7, of_decide_eq_true a8⟩
def obsX (fa : List He.Fa) (fx : List Fx) (fn : List He.DefD) (K : PySem.W.Frag) : He.AlD := ((fx.all fun f => f.ok K) && (He.obsD fa fn K).1, (He.obsD fa fn K).2)
def SaysX (fa : List He.Fa) (fx : List Fx) (fn : List He.DefD) (K : PySem.W.Frag) : Prop := obsX fa fx fn K = He.valD fn
def obsXG (n : Nat) (fa : List He.Fa) (fx : List Fx) (fn : List He.DefD) (g : Addr → Option Obj) : He.AlD := obsX fa fx fn (He.frG g (He.asD g n ++ [PySem.cStatics]))
def hookX (n : Nat) (fa : List He.Fa) (fx : List Fx) (fn : List He.DefD) : PySem.W.Hook where
  α := He.AlD
  obs := fun s => obsXG n fa fx fn s.heap.get?
  val := fun _ => He.valD fn
  says := fun _ h => ∃ K : PySem.W.Frag, K.In h ∧ SaysX fa fx fn K
  of := fun _ _ e => ⟨_, He.frG_in, e⟩
  keeps := fun _ _ _ ⟨K, hK, c⟩ k => ⟨K, PySem.W.Frag.In.keeps hK k, c⟩
theorem obsXG_eq {n : Nat} {fa : List He.Fa} {fx : List Fx} {fn : List He.DefD} {g : Addr → Option Obj} {s : Shared} (h : ∀ a, g a = s.heap.get? a) : obsXG n fa fx fn g = (hookX n fa fx fn).obs s := by
  have e : g = s.heap.get? := funext h
  rw [e] <;> rfl
theorem SaysX.d {fa : List He.Fa} {fx : List Fx} {fn : List He.DefD} {K : PySem.W.Frag} (h : SaysX fa fx fn K) : He.SaysD fa fn K := by
  have h1 : ((fx.all fun f => f.ok K) && (He.obsD fa fn K).1) = true := congrArg (fun z : He.AlD => z.1) h
  have h0 : obsX fa fx fn K = He.valD fn := h
  have h2 : (obsX fa fx fn K).2 = (He.valD fn).2 := congrArg (fun z : He.AlD => z.2) h0
  exact Prod.ext (He.ba h1).2 h2
theorem SaysX.x {fa : List He.Fa} {fx : List Fx} {fn : List He.DefD} {K : PySem.W.Frag} (h : SaysX fa fx fn K) : ∀ f ∈ fx, f.ok K = true := by
  have h1 : ((fx.all fun f => f.ok K) && (He.obsD fa fn K).1) = true := congrArg (fun z : He.AlD => z.1) h
  exact List.all_eq_true.mp (He.ba h1).1
/-! ### the facts of a text, by places in lists -/
structure FT (fa : List He.Fa) (fx : List Fx) (fn : List He.DefD) (K : PySem.W.Frag) (mg : Str → Option Value) : Prop where
  says : He.SaysD fa fn K
  heap : ∃ h : Heap, K.In h ∧ h.Ns mainGlobals mg
  sx : ∀ f ∈ fx, f.ok K = true
section
variable {fa : List He.Fa} {fx : List Fx} {fn : List He.DefD} {K : PySem.W.Frag} {mg : Str → Option Value}
theorem FT.far (T : FT fa fx fn K mg) (i : Nat) {f : Fx} (h : fx[i]? = some f) : f.ok K = true := T.sx f (List.mem_of_getElem? h)
theorem FT.rd (T : FT fa fx fn K mg) (i : Nat) {C : Str} (h : fx[i]? = some (.rd C) := by rfl) : ClX.CRead K (He.ga K C) (.type "type") := Fx.rd_ok (T.far i h)
theorem FT.cval (T : FT fa fx fn K mg) (i : Nat) {C m : Str} (h : fx[i]? = some (.cval C m) := by rfl) : ClX.CVal K (He.ga K C) (.type "type") m (.ref (He.ma K (He.ga K C) m)) (.ref (He.ma K (He.ga K C) m)) := Fx.cval_ok (T.far i h)
theorem FT.iso (T : FT fa fx fn K mg) (i : Nat) {x : Str} (h : fx[i]? = some (.iso x) := by rfl) : IsoC K (He.ga K x) := Fx.iso_ok (T.far i h)
theorem FT.isc (T : FT fa fx fn K mg) (i : Nat) {x : Str} (h : fx[i]? = some (.isc x) := by rfl) : ExcC K (He.ga K x) := Fx.isc_ok (T.far i h)
theorem FT.one (T : FT fa fx fn K mg) (i : Nat) {x y : Str} {b : Bool} (h : fx[i]? = some (.one x y b) := by rfl) : PySem.W.kitOne K (.ref (He.ga K x)) (.ref (He.ga K y)) = some b := of_decide_eq_true (T.far i h)
theorem FT.oneT (T : FT fa fx fn K mg) (i : Nat) {x : Str} {t : String} {b : Bool} (h : fx[i]? = some (.oneT x t b) := by rfl) : PySem.W.kitOne K (.ref (He.ga K x)) (.type t) = some b := of_decide_eq_true (T.far i h)
theorem FT.cls (T : FT fa fx fn K mg) (i : Nat) {x : Str} (h : fa[i]? = some (.cls x) := by rfl) : Cls K (He.ga K x) := He.cls_ok (T.says.fact i h)
theorem FT.noat (T : FT fa fx fn K mg) (i : Nat) {x f : Str} (h : fa[i]? = some (.noat x f) := by rfl) : NoAttr K (He.ga K x) f := He.noat_ok (T.says.fact i h)
theorem FT.meth (T : FT fa fx fn K mg) (i : Nat) {x f : Str} (h : fa[i]? = some (.meth x f) := by rfl) : Meth K (He.ga K x) f (He.ma K (He.ga K x) f) := He.meth_ok (T.says.fact i h)
theorem FT.mkr (T : FT fa fx fn K mg) (i : Nat) {x : Str} (h : fa[i]? = some (.mkr x) := by rfl) : Mk K (He.ga K x) (He.ma K (He.ga K x) "__init__") := He.mkr_ok (T.says.fact i h)
theorem FT.exm (T : FT fa fx fn K mg) (i : Nat) {x y : Str} {b : Bool} (h : fa[i]? = some (.exm x y b) := by rfl) : PySem.W.exmOne K (.ref (He.ga K x)) (.ref (He.ga K y)) = some b := He.exm_ok (T.says.fact i h)
theorem FT.fr (T : FT fa fx fn K mg) (i : Nat) {x : Str} (h : fa[i]? = some (.free x) := by rfl) : mg x = none := let ⟨_, X, G⟩ := T.heap; He.free_ok X G (T.says.fact i h)
theorem FT.gl (T : FT fa fx fn K mg) (i : Nat) {x : Str} (h : fa[i]? = some (.glo x) := by rfl) : mg x = some (.ref (He.ga K x)) := let ⟨_, X, G⟩ := T.heap; He.glo_ok X G (T.says.fact i h)
theorem FT.int (T : FT fa fx fn K mg) (i : Nat) {x : Str} {v : Int} (h : fa[i]? = some (.int x v) := by rfl) : ∃ t, mg x = some (.int v t) := let ⟨_, X, G⟩ := T.heap; He.int_ok X G (T.says.fact i h)
theorem FT.str (T : FT fa fx fn K mg) (i : Nat) {x v : Str} (h : fa[i]? = some (.str x v) := by rfl) : ∃ t, mg x = some (.str v t) := let ⟨_, X, G⟩ := T.heap; He.str_ok X G (T.says.fact i h)
/-- a def of the module keeps its promise -/
structure FOk (P : Program) (w : World) (K : PySem.W.Frag) (mg : Str → Option Value) (base : Heap) (k : Nat) (x : Str) (c : FC) : Prop where
  ex : ∃ f fd ps, mg x = some (.ref f) ∧ PySem.W.keepIn K (.ref f) = true ∧ Binds K fd ps [] ∧ FnOk P w K mg base (L2.CX P w) k f fd ps (spOf K c)
theorem FT.fok {P : Program} {w : World} {base : Heap} (T : FT fa fx fn K mg) (i j : Nat) {x : Str} {d : He.DefD} {k : Nat} {c : FC} {ps : List Str} (hi : fn[i]? = some d) (hj : fa[j]? = some (.glo x)) (ha : d.at_ = (x, none))
    (hd : d.dfl = []) (hk : d.kwd = [])
    (hb : ∀ fd, FunD K d.name d.qual d.params d.body d.scope [] [] (He.ga K x) fd → Binds K fd ps [])
    (hF : ∀ fd, FunD K d.name d.qual d.params d.body d.scope [] [] (He.ga K x) fd → FnOk P w K mg base (L2.CX P w) k (He.ga K x) fd ps (spOf K c)) : FOk P w K mg base k x c := by
  obtain ⟨fd, F⟩ := T.says.def_ i hi
  have e1 : d.dvs K = [] := by unfold He.DefD.dvs; rw [hd]; rfl
  have e2 : d.kws K = [] := by unfold He.DefD.kws; rw [hk]; rfl
  have e3 : He.fAd K d.at_ = He.ga K x := by rw [ha]; rfl
  rw [e1, e2, e3] at F
  exact ⟨⟨_, fd, ps, T.gl j hj, F.kp, hb fd F, hF fd F⟩⟩
end
section
variable {X : Cx} {WE : WX} {x : Str} {p pos : Pos} {e : Expr} {es : List Expr} {ga : M (List D)}
theorem dc {j k : Nat} {c : FC} (F : FOk X.prog X.w X.K X.mg X.base j x c) (hr : Room k X.A) (tk : Takes X WE) (ha : PA X (e :: es) (tA X.K WE ga)) (hjk : j ≤ k := by decide) (hg : Gl X x := by rfl) (hdb : (x == ("__debug__" : Str)) = false := by decide)
    (he : starEach (e :: es) X.env = (false, eval e X.env) :: starEach es X.env := by rfl) (hpl : (backTo pos (starEach es X.env)).any (·.1) = false := by rfl) : PE X (.Call (.Name x p) (e :: es) [] pos) (tE X.K WE (mCall c ga)) := by
  obtain ⟨f, fd, ps, h1, h2, h3, h4⟩ := F.ex
  exact de_call h4 (hr.mono hjk) h1 h2 h3 tk ha hg hdb he hpl
theorem dgI {i : Int} (h : ∃ t, X.mg x = some (.int i t)) (hg : Gl X x := by rfl) (hd : (x == ("__debug__" : Str)) = false := by decide) : PE X (.Name x pos) (tE X.K WE (mC (.int i))) := let ⟨_, q⟩ := h; d_globI q hg hd
theorem dgS {i : Str} (h : ∃ t, X.mg x = some (.str i t)) (hg : Gl X x := by rfl) (hd : (x == ("__debug__" : Str)) = false := by decide) : PE X (.Name x pos) (tE X.K WE (mC (.str i))) := let ⟨_, q⟩ := h; d_globS q hg hd
end
theorem hu64 {k : Nat} {A : Around} (hr : Room k A) : A.units + 64 < cLine := by have := hr.un; omega
/-- no exception leaves: the law's own end -/
theorem cx_none (P : Program) (w : World) (H : Hp) (s : Shared) (e : Value) (s' : Shared) (h : L2.CX P w [] H s (fun _ _ _ => False) e s') : False := by
  obtain ⟨_, _, _, _, _, _, _, _, _, _, _, _, z⟩ := h
  exact z
/-- the law's promise: from a script, True -/
def cLaw : FC := fun ds W P _ => ∃ ns : List Int, ds = [.sq (ns.map D.int)] ∧ W = [] ∧ ns.length ≤ 63 ∧ ∀ W', P (.bl true) W'
theorem ints_reps {K : PySem.W.Frag} {B : Hp} {φ : List Addr} : ∀ ns : List Int, Reps K B φ (ns.map D.int) (ns.map V.int)
  | [] => Reps.nil
  | n :: ns => Reps.cons (by simp only [Rep]) (ints_reps ns)
theorem law_sp {K : PySem.W.Frag} {H : Hp} {a : Addr} {ns : List Int} (hl : ns.length ≤ 63) (hS : SqL K H a (ns.map V.int)) (hO : ∀ (a : Addr) (o : HO), H a = some o → H a = some o) : spOf K cLaw [.ref a] H (fun v _ => v = .bl true) fun _ _ _ => False := by
  refine ⟨H, [], [], [.sq (ns.map D.int)], fun d _ => d = .bl true, fun _ _ => False, ⟨fun a u h => .inl h, rfl, fun n a o h => by simp at h, List.nodup_nil, fun a h => by simp at h⟩, Reps.cons ?_ Reps.nil, ⟨ns, rfl, rfl, hl, fun _ => rfl⟩, ?_, ?_⟩
  · simp only [Rep]
    exact ⟨a, _, rfl, hS, ints_reps ns⟩
  · rintro d W' v B' φ' H' rfl _ _ r
    simpa only [Rep] using r
  · intro x W' cls dd B' φ' H' q
    exact q.elim
/-- a law, over a head by facts; what may be raised hangs on the world -/
theorem walk_ofX {l : PySem.W.OpenLaw} {n k : Nat} {q : Program} {loose : List Str} {XP : (Str → Option Value) → Heap → Prop} {YP : World → Heap → Prop} {d : DefRec} {CX : World → CXT} {x : Str}
    (hn : l.most = some n) (hn2 : n ≤ sizeLine) (hdf : d.params.defaults = []) (hr : Room k callerA)
    (F : ∀ (w : World) (mg : Str → Option Value) (fa : Addr) (h : Heap), YP w h → h.Ns mainGlobals mg → mg d.name = some (.ref fa) →
      ∃ (K : PySem.W.Frag) (fd : FuncData) (sp : Sp), K.In h ∧ (∀ (s : Shared) (u : Value), BindsTo s fd ⟨[u], []⟩ [(x, u)]) ∧
        (∀ (H : Hp) (a : Addr) (ns : List Int), ns.length ≤ n → SqL K H a (ns.map V.int) → sp [.ref a] H (fun v _ => v = .bl true) fun _ _ _ => False) ∧
        ∀ base : Heap, K.In base → base.Ns mainGlobals mg → FnOk l.prog w K mg base (CX w) k fa fd [x] sp)
    (hCX : ∀ (w : World) (H : Hp) (s : Shared) (e : Value) (s' : Shared), CX w [] H s (fun _ _ _ => False) e s' → False) :
    PySem.W.WalkO q loose XP YP l.row.toRowW d [] (fun f vs => PySem.call f vs) := by
  refine Att.attach_call hn hdf fun w s₀ s₁ mg mb fa o pm cd doc a vs ns G Y ho hd hcd hmg hobj hints hlen hg => ?_
  obtain ⟨K, fd, sp, KX, hb, hsp, hF⟩ := F w mg fa _ Y G.T.g hmg
  exact law_call KX G.T.g G.T.b G.T.builtins G.T.nolimit hg hobj hints (Nat.le_trans hlen hn2) hr hF hb (fun H hO hS => hsp H a ns hlen hS) fun H e s' => hCX w H s₁ e s'
/-- .. from the law's def -/
theorem law_end {fa : List He.Fa} {fx : List Fx} {fn : List He.DefD} {l : PySem.W.OpenLaw} {k : Nat} {q : Program} {loose : List Str} {XP : (Str → Option Value) → Heap → Prop} {d : DefRec} {m i : Nat} {D : He.DefD}
    (hn : l.most = some 63) (hdf : d.params.defaults = []) (hr : Room k callerA) (hi : fn[i]? = some D) (ha : D.at_ = (("law" : Str), (none : Option Str))) (hd0 : D.dfl = []) (hd1 : D.kwd = []) (hnm : d.name = ("law" : Str))
    (hb : ∀ (K : PySem.W.Frag) (fd : FuncData), FunD K D.name D.qual D.params D.body D.scope [] [] (He.ga K "law") fd → ∀ (s : Shared) (u : Value), BindsTo s fd ⟨[u], []⟩ [("script", u)])
    (hF : ∀ (w : World) (K : PySem.W.Frag) (mg : Str → Option Value) (base : Heap), FT fa fx fn K mg → ∀ fd, FunD K D.name D.qual D.params D.body D.scope [] [] (He.ga K "law") fd → FnOk l.prog w K mg base (L2.CX l.prog w) k (He.ga K "law") fd ["script"] (spOf K cLaw))
    {j : Nat} (hj : fa[j]? = some (.glo "law")) : PySem.W.WalkO q loose XP (hookX m fa fx fn).says l.row.toRowW d [] (fun f vs => PySem.call f vs) := by
  refine walk_ofX (CX := fun w => L2.CX l.prog w) (x := "script") hn (by decide) hdf hr ?_ (fun w H s e s' h => cx_none l.prog w H s e s' h)
  intro w mg f h Y G hmg
  obtain ⟨K, KX, c⟩ := Y
  have T : FT fa fx fn K mg := ⟨c.d, ⟨h, KX, G⟩, c.x⟩
  rw [hnm] at hmg
  have e := hmg.symm.trans (T.gl j hj)
  cases e
  obtain ⟨fd, F⟩ := c.d.def_ i hi
  have e1 : D.dvs K = [] := by unfold He.DefD.dvs; rw [hd0]; rfl
  have e2 : D.kws K = [] := by unfold He.DefD.kws; rw [hd1]; rfl
  have e3 : He.fAd K D.at_ = He.ga K "law" := by rw [ha]; rfl
  rw [e1, e2, e3] at F
  exact ⟨K, fd, spOf K cLaw, KX, hb K fd F, fun H a ns hl hS => law_sp hl hS fun _ _ z => z, fun base _ _ => hF w K mg base T fd F⟩
/-! ### methods -/
structure MethK (P : Program) (w : World) (K : PySem.W.Frag) (mg : Str → Option Value) (base : Heap) (k : Nat) (m C : Str) (c : FC) : Prop where
  ex : ∃ f fd ps, Cls K (He.ga K C) ∧ Meth K (He.ga K C) m f ∧ FnOk P w K mg base (L2.CX P w) k f fd ps (spOf K c) ∧ Binds K fd ps []
/-- a def at an address keeps a promise -/
def BodyOk (P : Program) (w : World) (K : PySem.W.Frag) (mg : Str → Option Value) (base : Heap) (k : Nat) (name qual : Str) (st : Stmt) (ps : List Str) (c : FC) : Prop :=
  ∀ f fd, FunD K name qual (defArgs st) (defBody st) (defScope st) [] [] f fd → FnOk P w K mg base (L2.CX P w) k f fd ps (spOf K c) ∧ Binds K fd ps []
section
variable {fa : List He.Fa} {fx : List Fx} {fn : List He.DefD} {K : PySem.W.Frag} {mg : Str → Option Value} {P : Program} {w : World} {base : Heap}
theorem FT.mdef (T : FT fa fx fn K mg) (i : Nat) {C m : Str} {d : He.DefD} (hi : fn[i]? = some d) (ha : d.at_ = (C, some m)) (hd : d.dfl = []) (hk : d.kwd = []) : ∃ fd, FunD K d.name d.qual d.params d.body d.scope [] [] (He.ma K (He.ga K C) m) fd := by
  obtain ⟨fd, F⟩ := T.says.def_ i hi
  have e1 : d.dvs K = [] := by unfold He.DefD.dvs; rw [hd]; rfl
  have e2 : d.kws K = [] := by unfold He.DefD.kws; rw [hk]; rfl
  have e3 : He.fAd K d.at_ = He.ma K (He.ga K C) m := by rw [ha]; rfl
  rw [e1, e2, e3] at F
  exact ⟨fd, F⟩
theorem FT.mok (T : FT fa fx fn K mg) (i ic im : Nat) {C m name qual : Str} {st : Stmt} {d : He.DefD} {k : Nat} {c : FC} {ps : List Str} (B : BodyOk P w K mg base k name qual st ps c) (hi : fn[i]? = some d := by rfl) (hc : fa[ic]? = some (.cls C) := by rfl) (hm : fa[im]? = some (.meth C m) := by rfl)
    (ha : d.at_ = (C, some m) := by rfl) (hd : d.dfl = [] := by rfl) (hk : d.kwd = [] := by rfl) (e1 : d.name = name := by rfl) (e2 : d.qual = qual := by rfl) (e3 : d.params = defArgs st := by rfl) (e4 : d.body = defBody st := by rfl) (e5 : d.scope = defScope st := by rfl) : MethK P w K mg base k m C c := by
  obtain ⟨fd, F⟩ := T.mdef i hi ha hd hk
  rw [e1, e2, e3, e4, e5] at F
  obtain ⟨q1, q2⟩ := B _ _ F
  exact ⟨⟨_, fd, ps, T.cls ic hc, T.meth im hm, q1, q2⟩⟩
/-- a method's table keeps its promises -/
def MCls (P : Program) (w : World) (K : PySem.W.Frag) (mg : Str → Option Value) (base : Heap) (k : Nat) (m : Str) (cs : List Str) (c : FC) : Prop := ∀ C ∈ cs, ∃ U, C ∈ U ∧ MethK P w K mg base k m C (recv U c)
theorem MCls.nil {k : Nat} {m : Str} {c : FC} : MCls P w K mg base k m [] c := fun _ h => by cases h
theorem MCls.cons {j k : Nat} {m C : Str} {cs U : List Str} {c : FC} (h : MethK P w K mg base j m C (recv U c)) (t : MCls P w K mg base k m cs c) (hU : C ∈ U := by decide) (hj : j ≤ k := by decide) : MCls P w K mg base k m (C :: cs) c := fun D hD => by
  rcases List.mem_cons.mp hD with rfl | q
  · obtain ⟨f, fd, ps, a, b, F, d⟩ := h.ex
    exact ⟨U, hU, ⟨f, fd, ps, a, b, F.mono hj, d⟩⟩
  · exact t D q
structure MOk (P : Program) (w : World) (K : PySem.W.Frag) (mg : Str → Option Value) (base : Heap) (k : Nat) (m : Str) (tbl : Tbl) : Prop where
  ex : ∀ p ∈ tbl, MCls P w K mg base k m p.1 p.2
theorem MOk.nil {k : Nat} {m : Str} : MOk P w K mg base k m [] := ⟨fun _ h => by cases h⟩
theorem MOk.cons {k : Nat} {m : Str} {cs : List Str} {c : FC} {tbl : Tbl} (h : MCls P w K mg base k m cs c) (t : MOk P w K mg base k m tbl) : MOk P w K mg base k m ((cs, c) :: tbl) := ⟨fun p hp => by
  rcases List.mem_cons.mp hp with rfl | q
  · exact h
  · exact t.ex p q⟩
end
section
variable {X : Cx} {WE : WX} {x m : Str} {p pos apos : Pos} {e o : Expr} {es : List Expr} {ga : M (List D)} {fo : M D}
theorem mok_x {j k : Nat} {tbl : Tbl} (M0 : MOk X.prog X.w X.K X.mg X.base j m tbl) (hjk : j ≤ k) : ∀ p ∈ tbl, ∀ C ∈ p.1, ∃ U, C ∈ U ∧ MethOk X k m C (recv U p.2) := fun p hp C hC => by
  obtain ⟨U, hU, ⟨f, fd, ps, a, b, F, d⟩⟩ := M0.ex p hp C hC
  exact ⟨U, hU, ⟨f, fd, ps, a, b, F.mono hjk, d⟩⟩
theorem dm {j k : Nat} {tbl : Tbl} {pl : Sem Bool} (M0 : MOk X.prog X.w X.K X.mg X.base j m tbl) (hr : Room k X.A) (tk : Takes X WE) (ho : PE X o (tE X.K WE fo)) (ha : PA X (e :: es) (tA X.K WE ga)) (hjk : j ≤ k := by decide)
    (hst : starEach (e :: es) X.env = (false, eval e X.env) :: starEach es X.env := by rfl) (hpl : (backTo pos (starEach es X.env)).any (·.1) = false := by rfl)
    (ht : eval (.Call (.Attribute o m apos) (e :: es) [] pos) X.env = (do
      let ov ← eval o X.env
      standAt apos.atName
      let (f, first) ← holding [ov] (getMethod ov m pl)
      callWith pos f first (backTo pos (starEach (e :: es) X.env)) (backToKw pos (keywordEach [] X.env))) := by rfl) :
    PE X (.Call (.Attribute o m apos) (e :: es) [] pos) (tE X.K WE (mMeth m tbl fo ga)) := de_meth ho (mok_x M0 hjk) hr tk ha hst hpl ht
theorem dm0 {j k : Nat} {tbl : Tbl} {pl : Sem Bool} (M0 : MOk X.prog X.w X.K X.mg X.base j m tbl) (hr : Room k X.A) (tk : Takes X WE) (ho : PE X o (tE X.K WE fo)) (hjk : j ≤ k := by decide)
    (ht : eval (.Call (.Attribute o m apos) [] [] pos) X.env = (do
      let ov ← eval o X.env
      standAt apos.atName
      let (f, first) ← holding [ov] (getMethod ov m pl)
      callWith pos f first (backTo pos (starEach [] X.env)) (backToKw pos (keywordEach [] X.env))) := by rfl) :
    PE X (.Call (.Attribute o m apos) [] [] pos) (tE X.K WE (mMeth m tbl fo mNil)) := de_meth0 ho (mok_x M0 hjk) hr tk ht
end
end Tw

set_option Elab.async false
set_option linter.all false
set_option maxRecDepth 100000
set_option maxHeartbeats 4000000
namespace Tw
open PySem PySem.Spec PyProof.Rows L2
section
variable {K : PySem.W.Frag} {WE : WX}
theorem opa_sub : OpA K WE (rI0 fun i j => .int (i - j)) dSub := opa_int0 fun _ _ _ _ => by simp only [Rep]
theorem opa_mul : OpA K WE (rI CMul fun i j => .int (i * j)) dMul := opa_int fun _ _ _ _ => by simp only [Rep]
theorem opa_mod : OpA K WE (rI (fun _ j => 0 < j) fun i j => .int (i % j)) dMod := opa_int fun _ _ _ _ => by simp only [Rep]
theorem opa_div : OpA K WE (rI CDivW fun i j => .int (i / j)) dDiv := opa_int fun _ _ _ _ => by simp only [Rep]
theorem opa_pow : OpA K WE (rI CPow fun i j => .int (i ^ j.toNat)) dPow := opa_int fun _ _ _ _ => by simp only [Rep]
theorem opa_lt : OpA K WE (rI0 fun i j => .bl (decide (i < j))) dLt := opa_int0 fun _ _ _ _ => by simp only [Rep]
theorem opa_le : OpA K WE (rI0 fun i j => .bl (decide (i ≤ j))) dLe := opa_int0 fun _ _ _ _ => by simp only [Rep]
theorem opa_gt : OpA K WE (rI0 fun i j => .bl (decide (j < i))) dGt := opa_int0 fun _ _ _ _ => by simp only [Rep]
theorem opa_ge : OpA K WE (rI0 fun i j => .bl (decide (j ≤ i))) dGe := opa_int0 fun _ _ _ _ => by simp only [Rep]
/-- is, of bools -/
def dIsB (neg : Bool) : Dop
  | .bl a, .bl b => fun S P _ => P (.bl (negb neg (decide (a = b)))) S
  | _, _ => fun _ _ _ => False
theorem opa_isB : OpA K WE (fun x y H Q => ∃ a b, x = .bl a ∧ y = .bl b ∧ Q (.bl (decide (a = b))) H) (dIsB false) := by
  intro B φ S σ H a b x y Q R ra rb q
  obtain ⟨P, Xx, h1, h2, h3⟩ := q
  unfold dIsB at h1
  split at h1
  · rename_i i j
    simp only [Rep] at ra rb
    exact ⟨i, j, ra, rb, Run.fin h2 h1 R (by simp only [Rep]; rfl)⟩
  · exact h1.elim
end

/-! ### methods of lists, called for what they do -/
section
variable {X : Cx} {WE : WX} {o e : Expr} {fo : M D} {ga : M (List D)} {apos cpos : Pos}
def MtA (K : PySem.W.Frag) (WE : WX) (T : String) (r : V → List V → Hp → VK → Prop) (g : D → List D → M D) : Prop :=
  ∀ (B : Hp) (φ : List Addr) (S : AS) (σ : L2.St) (H : Hp) (d : D) (ds : List D) (x : V) (vs : List V) (Q : VK), Rel K B φ S σ H → Rep K B φ d x → Reps K B φ ds vs → RRun K WE (g d ds) B φ S σ H Q → r x vs H Q
/-- what a receiver must be ahead of its arguments -/
def isLst (S : AS) (d : D) : Prop := ∃ l, rdL S.W d = some l
def isDct (S : AS) (d : D) : Prop := ∃ ks l, rdD S.W d = some (ks, l)
def isStr (_ : AS) (d : D) : Prop := ∃ z, d = .str z
def mMt (pre : AS → D → Prop) (g : D → List D → M D) (fo : M D) (ga : M (List D)) : M D := M.bind fo fun d S P X => pre S d ∧ (M.bind ga fun ds => g d ds) S P X
theorem ty_lst {K : PySem.W.Frag} {B H : Hp} {φ : List Addr} {S : AS} {σ : L2.St} {d : D} {x : V} (R : Rel K B φ S σ H) (r : Rep K B φ d x) (h : isLst S d) : tyV K "list" x H := by
  obtain ⟨l, e⟩ := h
  obtain ⟨p, xs, rfl, hp, _⟩ := rdL_ok R.w r e
  exact .inl ⟨rfl, xs, hp⟩
theorem ty_str {K : PySem.W.Frag} {B H : Hp} {φ : List Addr} {S : AS} {σ : L2.St} {d : D} {x : V} (R : Rel K B φ S σ H) (r : Rep K B φ d x) (h : isStr S d) : tyV K "str" x H := by
  obtain ⟨z, rfl⟩ := h
  simp only [Rep] at r
  subst r
  rfl
theorem tBM_of {K : PySem.W.Frag} {T : String} {r : V → List V → Hp → VK → Prop} {g : D → List D → M D} {pre : AS → D → Prop} (hp : ∀ {B H : Hp} {φ : List Addr} {S : AS} {σ : L2.St} {d : D} {x : V}, Rel K B φ S σ H → Rep K B φ d x → pre S d → tyV K T x H)
    (hr : MtA K WE T r g) (σ : L2.St) (H : Hp) (Q : VK) (h : tE K WE (mMt pre g fo ga) σ H Q) : tBM K T r (tE K WE fo) (tA K WE ga) σ H Q := by
  obtain ⟨B, φ, S, R, run⟩ := h
  refine ⟨B, φ, S, R, run.bind.imp ?_⟩
  rintro x H1 ⟨d, B1, φ1, S1, e1, R1, r1, P, Xx, ⟨h0, h1⟩, h2, h3⟩
  refine ⟨hp R1 r1 h0, B1, φ1, S1, R1, (Run.bind ⟨P, Xx, h1, h2, h3⟩).imp ?_⟩
  rintro vs H2 ⟨ds, B2, φ2, S2, e2, R2, r2, run2⟩
  exact hr B2 φ2 S2 σ H2 d ds x vs Q R2 (r1.mono e2 _ _) r2 run2
theorem tBM0_of {K : PySem.W.Frag} {T : String} {r : V → List V → Hp → VK → Prop} {g : D → List D → M D} {pre : AS → D → Prop} (hp : ∀ {B H : Hp} {φ : List Addr} {S : AS} {σ : L2.St} {d : D} {x : V}, Rel K B φ S σ H → Rep K B φ d x → pre S d → tyV K T x H)
    (hr : MtA K WE T r g) (σ : L2.St) (H : Hp) (Q : VK) (h : tE K WE (mMt pre g fo mNil) σ H Q) : tBM0 K T r (tE K WE fo) σ H Q := by
  obtain ⟨B, φ, S, R, run⟩ := h
  refine ⟨B, φ, S, R, run.bind.imp ?_⟩
  rintro x H1 ⟨d, B1, φ1, S1, e1, R1, r1, P, Xx, ⟨h0, h1⟩, h2, h3⟩
  exact ⟨hp R1 r1 h0, hr B1 φ1 S1 σ H1 d [] x [] Q R1 r1 Reps.nil ⟨P, Xx, h1, h2, h3⟩⟩
def gAppend (d : D) (ds : List D) : M D := fun S P _ => match d, ds with
  | .hnd n, [y] => (match S.W[n]? with
    | some (.lst l) => l.length < sizeLine ∧ P .non ⟨S.σ, S.W.set n (.lst (l ++ [y]))⟩
    | _ => False)
  | _, _ => False
theorem hnd_lst {K : PySem.W.Frag} {B H : Hp} {φ : List Addr} {W : Wd} {n : Nat} {x : V} {l : List D} (R : RelW K B φ W H) (r : Rep K B φ (.hnd n) x) (h : W[n]? = some (.lst l)) : ∃ a xs, x = .ref a ∧ φ[n]? = some a ∧ H a = some (.lst xs) ∧ Reps K B φ l xs := by
  simp only [Rep] at r
  obtain ⟨a, ha, rfl⟩ := r
  obtain ⟨a', ha', xs, hx, hr⟩ := R.get h
  rw [ha] at ha'; cases ha'
  exact ⟨a, xs, rfl, ha, hx, hr⟩
theorem ma_append : MtA X.K WE "list" rAppend gAppend := by
  intro B φ S σ H d ds x vs Q R r rs q
  obtain ⟨P, Xx, h1, h2, h3⟩ := q
  unfold gAppend at h1
  split at h1
  · rename_i n y
    split at h1
    · rename_i l hw
      obtain ⟨a, xs, rfl, ha, hx, hr⟩ := hnd_lst R.w r hw
      obtain ⟨v, rfl, rv⟩ := one_inv rs
      exact ⟨a, xs, v, rfl, rfl, hx, by rw [hr.length]; exact h1.1, h2 _ _ _ _ _ _ h1.2 (Ext.refl _ _) (R.ext (Ext.refl _ _) (R.w.put (o := .lst (l ++ [y])) ha ⟨_, upd_same, hr.append (Reps.cons rv Reps.nil)⟩)) (by simp only [Rep])⟩
    · exact h1.elim
  · exact h1.elim
def gExtend (d : D) (ds : List D) : M D := fun S P _ => match d, ds with
  | .hnd n, [y] => (match S.W[n]?, rdM S.W y with
    | some (.lst l), some m => l.length + m.length ≤ sizeLine ∧ P .non ⟨S.σ, S.W.set n (.lst (l ++ m))⟩
    | _, _ => False)
  | _, _ => False
theorem ma_extend : MtA X.K WE "list" rExtend gExtend := by
  intro B φ S σ H d ds x vs Q R r rs q
  obtain ⟨P, Xx, h1, h2, h3⟩ := q
  unfold gExtend at h1
  split at h1
  · rename_i n y
    split at h1
    · rename_i l m hw hm
      obtain ⟨a, xs, rfl, ha, hx, hr⟩ := hnd_lst R.w r hw
      obtain ⟨v, rfl, rv⟩ := one_inv rs
      obtain ⟨p, ys, rfl, hp, hr2⟩ := rdM_ok R.w rv hm
      exact ⟨a, p, xs, ys, rfl, rfl, hx, hp, by rw [hr.length, hr2.length]; exact h1.1, h2 _ _ _ _ _ _ h1.2 (Ext.refl _ _) (R.ext (Ext.refl _ _) (R.w.put (o := .lst (l ++ m)) ha ⟨_, upd_same, hr.append hr2⟩)) (by simp only [Rep])⟩
    · exact h1.elim
  · exact h1.elim
def gClear (d : D) (ds : List D) : M D := fun S P _ => match d, ds with
  | .hnd n, [] => (match S.W[n]? with
    | some (.lst l) => P .non ⟨S.σ, S.W.set n (.lst [])⟩
    | _ => False)
  | _, _ => False
theorem ma_clear : MtA X.K WE "list" rClear gClear := by
  intro B φ S σ H d ds x vs Q R r rs q
  obtain ⟨P, Xx, h1, h2, h3⟩ := q
  unfold gClear at h1
  split at h1
  · rename_i n
    split at h1
    · rename_i l hw
      obtain ⟨a, xs, rfl, ha, hx, hr⟩ := hnd_lst R.w r hw
      exact ⟨a, xs, rfl, rs.nil_inv, hx, h2 _ _ _ _ _ _ h1 (Ext.refl _ _) (R.ext (Ext.refl _ _) (R.w.put (o := .lst []) ha ⟨[], upd_same, Reps.nil⟩)) (by simp only [Rep])⟩
    · exact h1.elim
  · exact h1.elim
theorem de_bm {e0 : Expr} {T : String} {r : V → List V → Hp → VK → Prop} {g : D → List D → M D} {pre : AS → D → Prop} (h : PE X e0 (tBM X.K T r (tE X.K WE fo) (tA X.K WE ga))) (hp : ∀ {B H : Hp} {φ : List Addr} {S : AS} {σ : L2.St} {d : D} {x : V}, Rel X.K B φ S σ H → Rep X.K B φ d x → pre S d → tyV X.K T x H)
    (hr : MtA X.K WE T r g) : PE X e0 (tE X.K WE (mMt pre g fo ga)) := PE.weak h fun σ H Q q => tBM_of hp hr σ H Q q
theorem de_bm0 {e0 : Expr} {T : String} {r : V → List V → Hp → VK → Prop} {g : D → List D → M D} {pre : AS → D → Prop} (h : PE X e0 (tBM0 X.K T r (tE X.K WE fo))) (hp : ∀ {B H : Hp} {φ : List Addr} {S : AS} {σ : L2.St} {d : D} {x : V}, Rel X.K B φ S σ H → Rep X.K B φ d x → pre S d → tyV X.K T x H)
    (hr : MtA X.K WE T r g) : PE X e0 (tE X.K WE (mMt pre g fo mNil)) := PE.weak h fun σ H Q q => tBM0_of hp hr σ H Q q
/-- sep.join(list of texts) -/
def gJoin (d : D) (ds : List D) : M D := fun S P _ => match d, ds with
  | .str a, [y] => ∃ ys : List Str, rdL S.W y = some (ys.map D.str) ∧ (ys.map fun z => z.length).sum + ys.length * a.length ≤ 16777216 ∧ P (.str (Txt.join a ys)) S
  | _, _ => False
theorem reps_strs {K : PySem.W.Frag} {B : Hp} {φ : List Addr} : ∀ {ns : List Str} {xs : List V}, Reps K B φ (ns.map D.str) xs → xs = ns.map V.str
  | [], xs, h => by rw [h.nil_inv]; rfl
  | n :: ns, xs, h => by
    obtain ⟨x, r, rfl, h1, t⟩ := h.cons_inv
    simp only [Rep] at h1
    subst h1
    rw [reps_strs t]
    rfl
theorem ma_join : MtA X.K WE "str" (fun x xs H Q => ∃ a p, ∃ ys : List Str, x = .str a ∧ xs = [.ref p] ∧ (SqL X.K H p (ys.map V.str) ∨ SqT X.K H p (ys.map V.str)) ∧ (ys.map (·.length)).sum + ys.length * a.length ≤ 16777216 ∧ Q (.str (Txt.join a ys)) H) gJoin := by
  intro B φ S σ H d ds x vs Q R r rs q
  obtain ⟨P, Xx, h1, h2, h3⟩ := q
  unfold gJoin at h1
  split at h1
  · rename_i a y
    obtain ⟨ys, e, hz, h1⟩ := h1
    obtain ⟨v, rfl, rv⟩ := one_inv rs
    obtain ⟨p, xs, rfl, hp, hr⟩ := rdL_ok R.w rv e
    have := reps_strs hr
    subst this
    simp only [Rep] at r
    exact ⟨a, p, ys, r, rfl, .inl hp, hz, Run.fin h2 h1 R (by simp only [Rep])⟩
  · exact h1.elim
end
end Tw

set_option Elab.async false
set_option linter.all false
set_option maxRecDepth 100000
set_option maxHeartbeats 4000000
namespace Tw
open PySem PySem.Spec PyProof.Rows L2
/-! ### the mirrors: data of the program -/
def oD : Option Int → D
  | none => .non
  | some i => .int i
def oS : Option Str → D
  | none => .non
  | some i => .str i
theorem oD_none : oD none = .non := rfl
theorem oD_some (i : Int) : oD (some i) = .int i := rfl
theorem oS_none : oS none = .non := rfl
theorem oS_some (i : Str) : oS (some i) = .str i := rfl
theorem sz_small {n : Nat} (h : n ≤ 1000000) : n ≤ sizeLine := Nat.le_trans h (by decide)
theorem sz_lt {n : Nat} (h : n ≤ 1000000) : n < sizeLine := Nat.lt_of_le_of_lt h (by decide)
theorem szN (n : Nat) (h : n ≤ 1000000 := by decide) : (n ≤ sizeLine) = True := eq_true (sz_small h)
theorem sz0 : (0 ≤ sizeLine) = True := szN 0
theorem sz1 : (1 ≤ sizeLine) = True := szN 1
theorem sz2 : (2 ≤ sizeLine) = True := szN 2
theorem sz3 : (3 ≤ sizeLine) = True := szN 3
theorem sz4 : (4 ≤ sizeLine) = True := szN 4
theorem sz5 : (5 ≤ sizeLine) = True := szN 5
theorem sz6 : (6 ≤ sizeLine) = True := szN 6
theorem sz7 : (7 ≤ sizeLine) = True := szN 7
theorem sz8 : (8 ≤ sizeLine) = True := szN 8
theorem sz9 : (9 ≤ sizeLine) = True := szN 9
theorem min_if (i j : Int) : (if j < i then j else i) = min i j := by rw [Int.min_def]; split <;> split <;> omega
theorem max_if (i j : Int) : (if j > i then j else i) = max i j := by rw [Int.max_def]; split <;> split <;> omega
theorem atI_of {α : Type} {l : List α} {k : Nat} {a : α} (h : l[k]? = some a) : atI l (k : Int) = some a := L2.atI_nat h
theorem atI_nat0 {α : Type} (l : List α) (k : Nat) : atI l (k : Int) = l[k]? := by
  unfold atI ixN
  by_cases h : (k : Int) < (l.length : Int)
  · rw [if_pos (by omega), if_pos h]
    simp
  · rw [if_pos (by omega), if_neg h]
    rw [List.getElem?_eq_none (by omega)]
    rfl
theorem atI_lit {α : Type} (l : List α) (i : Int) (k : Nat) (h : i = (k : Int) := by rfl) : atI l i = l[k]? := by rw [h, atI_nat0]
theorem atI0 {α : Type} (l : List α) : atI l 0 = l[0]? := atI_lit l 0 0
theorem atI1 {α : Type} (l : List α) : atI l 1 = l[1]? := atI_lit l 1 1
theorem atI2 {α : Type} (l : List α) : atI l 2 = l[2]? := atI_lit l 2 2
theorem atI3 {α : Type} (l : List α) : atI l 3 = l[3]? := atI_lit l 3 3
theorem atI4 {α : Type} (l : List α) : atI l 4 = l[4]? := atI_lit l 4 4
theorem atI5 {α : Type} (l : List α) : atI l 5 = l[5]? := atI_lit l 5 5
theorem atI6 {α : Type} (l : List α) : atI l 6 = l[6]? := atI_lit l 6 6
theorem atI7 {α : Type} (l : List α) : atI l 7 = l[7]? := atI_lit l 7 7
theorem atI8 {α : Type} (l : List α) : atI l 8 = l[8]? := atI_lit l 8 8
theorem atI11 {α : Type} (l : List α) : atI l 11 = l[11]? := atI_lit l 11 11
theorem ixN_nat (n k : Nat) (h : k < n) : ixN n (k : Int) = some k := by
  unfold ixN
  rw [if_pos (by omega), if_pos (by omega)]
  simp
theorem ixN0 (n : Nat) : ixN (n + 1) 0 = some 0 := ixN_nat (n + 1) 0 (by omega)
theorem cpow12 : CPow 10 12 = True := eq_true (by unfold CPow; decide)
theorem p12 : (10 : Int) ^ (12 : Int).toNat = 1000000000000 := by decide
theorem cdivW {i j : Int} (h0 : 0 < j) (h1 : j ≤ 1000000000000000000) : CDivW i j := wide_div (b := 64) h0 (by omega) (by decide) (by decide)
theorem cdivW2 (i : Int) : CDivW i 2 = True := eq_true (cdivW (by decide) (by decide))
theorem cdivW8 (i : Int) : CDivW i 8 = True := eq_true (cdivW (by decide) (by decide))
theorem de_non_non   : D.eq D.non D.non = true := by simp only [D.eq]
theorem de_non_bl  (a2 : Bool) : D.eq D.non (D.bl a2) = false := by simp only [D.eq]
theorem de_non_int  (i2 : Int) : D.eq D.non (D.int i2) = false := by simp only [D.eq]
theorem de_non_str  (s2 : Str) : D.eq D.non (D.str s2) = false := by simp only [D.eq]
theorem de_non_tup  (l2 : List D) : D.eq D.non (D.tup l2) = false := by simp only [D.eq]
theorem de_non_lst  (l2 : List D) : D.eq D.non (D.lst l2) = false := by simp only [D.eq]
theorem de_non_sq  (l2 : List D) : D.eq D.non (D.sq l2) = false := by simp only [D.eq]
theorem de_bl_non (a : Bool)  : D.eq (D.bl a) D.non = false := by simp only [D.eq]
theorem de_bl_bl (a : Bool) (a2 : Bool) : D.eq (D.bl a) (D.bl a2) = (a == a2) := by simp only [D.eq]
theorem de_bl_str (a : Bool) (s2 : Str) : D.eq (D.bl a) (D.str s2) = false := by simp only [D.eq]
theorem de_bl_tup (a : Bool) (l2 : List D) : D.eq (D.bl a) (D.tup l2) = false := by simp only [D.eq]
theorem de_bl_lst (a : Bool) (l2 : List D) : D.eq (D.bl a) (D.lst l2) = false := by simp only [D.eq]
theorem de_bl_sq (a : Bool) (l2 : List D) : D.eq (D.bl a) (D.sq l2) = false := by simp only [D.eq]
theorem de_int_non (i : Int)  : D.eq (D.int i) D.non = false := by simp only [D.eq]
theorem de_int_int (i : Int) (i2 : Int) : D.eq (D.int i) (D.int i2) = (i == i2) := by simp only [D.eq]
theorem de_int_str (i : Int) (s2 : Str) : D.eq (D.int i) (D.str s2) = false := by simp only [D.eq]
theorem de_int_tup (i : Int) (l2 : List D) : D.eq (D.int i) (D.tup l2) = false := by simp only [D.eq]
theorem de_int_lst (i : Int) (l2 : List D) : D.eq (D.int i) (D.lst l2) = false := by simp only [D.eq]
theorem de_int_sq (i : Int) (l2 : List D) : D.eq (D.int i) (D.sq l2) = false := by simp only [D.eq]
theorem de_str_non (s : Str)  : D.eq (D.str s) D.non = false := by simp only [D.eq]
theorem de_str_bl (s : Str) (a2 : Bool) : D.eq (D.str s) (D.bl a2) = false := by simp only [D.eq]
theorem de_str_int (s : Str) (i2 : Int) : D.eq (D.str s) (D.int i2) = false := by simp only [D.eq]
theorem de_str_str (s : Str) (s2 : Str) : D.eq (D.str s) (D.str s2) = (s == s2) := by simp only [D.eq]
theorem de_str_tup (s : Str) (l2 : List D) : D.eq (D.str s) (D.tup l2) = false := by simp only [D.eq]
theorem de_str_lst (s : Str) (l2 : List D) : D.eq (D.str s) (D.lst l2) = false := by simp only [D.eq]
theorem de_str_sq (s : Str) (l2 : List D) : D.eq (D.str s) (D.sq l2) = false := by simp only [D.eq]
theorem de_tup_non (l : List D)  : D.eq (D.tup l) D.non = false := by simp only [D.eq]
theorem de_tup_bl (l : List D) (a2 : Bool) : D.eq (D.tup l) (D.bl a2) = false := by simp only [D.eq]
theorem de_tup_int (l : List D) (i2 : Int) : D.eq (D.tup l) (D.int i2) = false := by simp only [D.eq]
theorem de_tup_str (l : List D) (s2 : Str) : D.eq (D.tup l) (D.str s2) = false := by simp only [D.eq]
theorem de_tup_tup (l : List D) (l2 : List D) : D.eq (D.tup l) (D.tup l2) = D.eqs l l2 := by simp only [D.eq]
theorem de_tup_lst (l : List D) (l2 : List D) : D.eq (D.tup l) (D.lst l2) = false := by simp only [D.eq]
theorem de_tup_sq (l : List D) (l2 : List D) : D.eq (D.tup l) (D.sq l2) = false := by simp only [D.eq]
theorem de_lst_non (l : List D)  : D.eq (D.lst l) D.non = false := by simp only [D.eq]
theorem de_lst_bl (l : List D) (a2 : Bool) : D.eq (D.lst l) (D.bl a2) = false := by simp only [D.eq]
theorem de_lst_int (l : List D) (i2 : Int) : D.eq (D.lst l) (D.int i2) = false := by simp only [D.eq]
theorem de_lst_str (l : List D) (s2 : Str) : D.eq (D.lst l) (D.str s2) = false := by simp only [D.eq]
theorem de_lst_tup (l : List D) (l2 : List D) : D.eq (D.lst l) (D.tup l2) = false := by simp only [D.eq]
theorem de_lst_lst (l : List D) (l2 : List D) : D.eq (D.lst l) (D.lst l2) = D.eqs l l2 := by simp only [D.eq]
theorem de_lst_sq (l : List D) (l2 : List D) : D.eq (D.lst l) (D.sq l2) = D.eqs l l2 := by simp only [D.eq]
theorem de_sq_non (l : List D)  : D.eq (D.sq l) D.non = false := by simp only [D.eq]
theorem de_sq_bl (l : List D) (a2 : Bool) : D.eq (D.sq l) (D.bl a2) = false := by simp only [D.eq]
theorem de_sq_int (l : List D) (i2 : Int) : D.eq (D.sq l) (D.int i2) = false := by simp only [D.eq]
theorem de_sq_str (l : List D) (s2 : Str) : D.eq (D.sq l) (D.str s2) = false := by simp only [D.eq]
theorem de_sq_tup (l : List D) (l2 : List D) : D.eq (D.sq l) (D.tup l2) = false := by simp only [D.eq]
theorem de_sq_lst (l : List D) (l2 : List D) : D.eq (D.sq l) (D.lst l2) = D.eqs l l2 := by simp only [D.eq]
theorem de_sq_sq (l : List D) (l2 : List D) : D.eq (D.sq l) (D.sq l2) = D.eqs l l2 := by simp only [D.eq]
theorem deqs_nn : D.eqs [] [] = true := by simp only [D.eqs]
theorem deqs_nc (x : D) (l : List D) : D.eqs [] (x :: l) = false := by simp only [D.eqs]
theorem deqs_cn (x : D) (l : List D) : D.eqs (x :: l) [] = false := by simp only [D.eqs]
theorem deqs_cc (x y : D) (l m : List D) : D.eqs (x :: l) (y :: m) = (D.eq x y && D.eqs l m) := by simp only [D.eqs]
theorem newL_t (l : List D) : newL true l = fun S P _ => P (.hnd S.W.length) ⟨S.σ, S.W ++ [.lst l]⟩ := rfl
theorem newL_f (l : List D) : newL false l = fun S P _ => P (.lst l) S := rfl
theorem tm_int : ("int" ∈ ["int", "str", "bool", "tuple", "list", "dict"]) = True := eq_true (by decide)
theorem tm_str : ("str" ∈ ["int", "str", "bool", "tuple", "list", "dict"]) = True := eq_true (by decide)
theorem tm_bool : ("bool" ∈ ["int", "str", "bool", "tuple", "list", "dict"]) = True := eq_true (by decide)
theorem tm_tuple : ("tuple" ∈ ["int", "str", "bool", "tuple", "list", "dict"]) = True := eq_true (by decide)
theorem tm_list : ("list" ∈ ["int", "str", "bool", "tuple", "list", "dict"]) = True := eq_true (by decide)
theorem tm_dict : ("dict" ∈ ["int", "str", "bool", "tuple", "list", "dict"]) = True := eq_true (by decide)
theorem isT_NoneType_int : isT "NoneType" "int" = false := by decide
theorem isT_NoneType_str : isT "NoneType" "str" = false := by decide
theorem isT_NoneType_bool : isT "NoneType" "bool" = false := by decide
theorem isT_NoneType_tuple : isT "NoneType" "tuple" = false := by decide
theorem isT_NoneType_list : isT "NoneType" "list" = false := by decide
theorem isT_NoneType_dict : isT "NoneType" "dict" = false := by decide
theorem isT_bool_int : isT "bool" "int" = true := by decide
theorem isT_bool_str : isT "bool" "str" = false := by decide
theorem isT_bool_bool : isT "bool" "bool" = true := by decide
theorem isT_bool_tuple : isT "bool" "tuple" = false := by decide
theorem isT_bool_list : isT "bool" "list" = false := by decide
theorem isT_bool_dict : isT "bool" "dict" = false := by decide
theorem isT_int_int : isT "int" "int" = true := by decide
theorem isT_int_str : isT "int" "str" = false := by decide
theorem isT_int_bool : isT "int" "bool" = false := by decide
theorem isT_int_tuple : isT "int" "tuple" = false := by decide
theorem isT_int_list : isT "int" "list" = false := by decide
theorem isT_int_dict : isT "int" "dict" = false := by decide
theorem isT_str_int : isT "str" "int" = false := by decide
theorem isT_str_str : isT "str" "str" = true := by decide
theorem isT_str_bool : isT "str" "bool" = false := by decide
theorem isT_str_tuple : isT "str" "tuple" = false := by decide
theorem isT_str_list : isT "str" "list" = false := by decide
theorem isT_str_dict : isT "str" "dict" = false := by decide
theorem isT_tuple_int : isT "tuple" "int" = false := by decide
theorem isT_tuple_str : isT "tuple" "str" = false := by decide
theorem isT_tuple_bool : isT "tuple" "bool" = false := by decide
theorem isT_tuple_tuple : isT "tuple" "tuple" = true := by decide
theorem isT_tuple_list : isT "tuple" "list" = false := by decide
theorem isT_tuple_dict : isT "tuple" "dict" = false := by decide
theorem isT_list_int : isT "list" "int" = false := by decide
theorem isT_list_str : isT "list" "str" = false := by decide
theorem isT_list_bool : isT "list" "bool" = false := by decide
theorem isT_list_tuple : isT "list" "tuple" = false := by decide
theorem isT_list_list : isT "list" "list" = true := by decide
theorem isT_list_dict : isT "list" "dict" = false := by decide
theorem isT_dict_int : isT "dict" "int" = false := by decide
theorem isT_dict_str : isT "dict" "str" = false := by decide
theorem isT_dict_bool : isT "dict" "bool" = false := by decide
theorem isT_dict_tuple : isT "dict" "tuple" = false := by decide
theorem isT_dict_list : isT "dict" "list" = false := by decide
theorem isT_dict_dict : isT "dict" "dict" = true := by decide
theorem nc0 : ((0 : Nat) : Int) = 0 := rfl
theorem nc1 : ((1 : Nat) : Int) = 1 := rfl
theorem nc2 : ((2 : Nat) : Int) = 2 := rfl
theorem nc3 : ((3 : Nat) : Int) = 3 := rfl
theorem nc4 : ((4 : Nat) : Int) = 4 := rfl
theorem nc5 : ((5 : Nat) : Int) = 5 := rfl
theorem nc6 : ((6 : Nat) : Int) = 6 := rfl
theorem nc7 : ((7 : Nat) : Int) = 7 := rfl
theorem nc8 : ((8 : Nat) : Int) = 8 := rfl
theorem nc9 : ((9 : Nat) : Int) = 9 := rfl
theorem vw_non (W : Wd)  : vw W D.non = D.non := rfl
theorem isNon_non  : isNon D.non = true := rfl
theorem vw_bl (W : Wd) (a : Bool) : vw W (D.bl a) = (D.bl a) := rfl
theorem isNon_bl (a : Bool) : isNon (D.bl a) = false := rfl
theorem vw_int (W : Wd) (i : Int) : vw W (D.int i) = (D.int i) := rfl
theorem isNon_int (i : Int) : isNon (D.int i) = false := rfl
theorem vw_str (W : Wd) (s : Str) : vw W (D.str s) = (D.str s) := rfl
theorem isNon_str (s : Str) : isNon (D.str s) = false := rfl
theorem vw_tup (W : Wd) (l : List D) : vw W (D.tup l) = (D.tup l) := rfl
theorem isNon_tup (l : List D) : isNon (D.tup l) = false := rfl
theorem vw_lst (W : Wd) (l : List D) : vw W (D.lst l) = (D.lst l) := rfl
theorem isNon_lst (l : List D) : isNon (D.lst l) = false := rfl
theorem vw_sq (W : Wd) (l : List D) : vw W (D.sq l) = (D.sq l) := rfl
theorem isNon_sq (l : List D) : isNon (D.sq l) = false := rfl
theorem vw_ty (W : Wd) (s : String) : vw W (D.ty s) = (D.ty s) := rfl
theorem isNon_ty (s : String) : isNon (D.ty s) = false := rfl
theorem vw_gl (W : Wd) (s : Addr) : vw W (D.gl s) = (D.gl s) := rfl
theorem isNon_gl (s : Addr) : isNon (D.gl s) = false := rfl
theorem vw_dct (W : Wd) (k : List Key) (l : List D) : vw W (D.dct k l) = (D.dct k l) := rfl
theorem isNon_dct (k : List Key) (l : List D) : isNon (D.dct k l) = false := rfl
theorem vw_hnd (W : Wd) (n : Nat) : vw W (.hnd n) = match W[n]? with
    | some (.lst l) => .lst l
    | _ => .hnd n := rfl
theorem isNon_hnd (n : Nat) : isNon (.hnd n) = false := rfl
theorem vw_oD (W : Wd) (o : Option Int) : vw W (oD o) = oD o := by cases o <;> rfl
theorem vw_oS (W : Wd) (o : Option Str) : vw W (oS o) = oS o := by cases o <;> rfl
theorem lay_oD (n : Nat) (o : Option Int) : (oD o).lay n = true := by cases o <;> simp only [oD, D.lay]
theorem lay_oS (n : Nat) (o : Option Str) : (oS o).lay n = true := by cases o <;> simp only [oS, D.lay]
theorem isNon_oD (o : Option Int) : isNon (oD o) = o.isNone := by cases o <;> rfl
theorem isNon_oS (o : Option Str) : isNon (oS o) = o.isNone := by cases o <;> rfl
theorem eq_oD (a b : Option Int) : D.eq (oD a) (oD b) = (a == b) := by cases a <;> cases b <;> simp [oD, D.eq]
theorem eq_oS (a b : Option Str) : D.eq (oS a) (oS b) = (a == b) := by cases a <;> cases b <;> simp [oS, D.eq]
theorem mAndV_eq (f g : M D) : mAndV f g = fun S P X => f S (fun d S1 => match d with
  | .bl b => if b = true then g S1 P X else P (.bl false) S1
  | _ => False) X := by
  funext S P X
  unfold mAndV M.bind
  congr
  funext d S1
  cases d <;> try rfl
  rename_i b
  cases b <;> rfl
theorem mOrV_eq (f g : M D) : mOrV f g = fun S P X => f S (fun d S1 => match d with
  | .bl b => if b = true then P (.bl true) S1 else g S1 P X
  | _ => False) X := by
  funext S P X
  unfold mOrV M.bind
  congr
  funext d S1
  cases d <;> try rfl
  rename_i b
  cases b <;> rfl
theorem cutD_to (l : List D) (v : Int) (k : Nat) (h : v = (k : Int)) : cutD l none (some v) = l.take k := by
  subst h
  unfold cutD
  rw [HT.sIx_none, HT.sIx_nat, Nat.sub_zero, List.drop_zero]
  by_cases c : k ≤ l.length
  · rw [Nat.min_eq_left c]
  · rw [Nat.min_eq_right (by omega), List.take_of_length_le (Nat.le_refl _), List.take_of_length_le (by omega)]
theorem cutD_from (l : List D) (v : Int) (k : Nat) (h : v = (k : Int)) : cutD l (some v) none = l.drop k := by
  subst h
  unfold cutD
  rw [HT.sIx_none, HT.sIx_nat]
  rw [List.take_of_length_le (by simp)]
  by_cases c : k ≤ l.length
  · rw [Nat.min_eq_left c]
  · rw [Nat.min_eq_right (by omega), List.drop_eq_nil_of_le (Nat.le_refl _), List.drop_eq_nil_of_le (by omega)]
theorem cutD_ft (l : List D) (v w : Int) (k m : Nat) (h : v = (k : Int)) (hm : w = (m : Int)) (h1 : k ≤ m) : cutD l (some v) (some w) = (l.drop k).take (m - k) := by
  subst h hm
  unfold cutD
  rw [HT.sIx_nat, HT.sIx_nat]
  by_cases c : m ≤ l.length
  · rw [Nat.min_eq_left c, Nat.min_eq_left (by omega)]
  · rw [Nat.min_eq_right (by omega : l.length ≤ m)]
    by_cases c2 : k ≤ l.length
    · rw [Nat.min_eq_left c2, List.take_of_length_le (by simp), List.take_of_length_le (by simp; omega)]
    · rw [Nat.min_eq_right (by omega), List.drop_eq_nil_of_le (Nat.le_refl _), List.drop_eq_nil_of_le (by omega)]
      simp
/-! ### stretches -/
abbrev Strt := Int × Option Int
def stD (s : Strt) : D := .tup [.int s.1, oD s.2]
def earlierEnd : Option Int → Option Int → Option Int
  | none, b => b
  | a, none => a
  | some a, some b => some (min a b)
def common (a b : Strt) : Option Strt := match earlierEnd a.2 b.2 with
  | some e => if e ≤ max a.1 b.1 then none else some (max a.1 b.1, some e)
  | none => some (max a.1 b.1, none)
def ostD : Option Strt → D
  | none => .non
  | some s => stD s
def inSt (s : Strt) (m : Int) : Bool := decide (s.1 ≤ m) && match s.2 with
  | none => true
  | some e => decide (m < e)
structure okSt (s : Strt) : Prop where
  lo : 0 ≤ s.1
  hi : s.1 ≤ 1000000000000
  en : ∀ e, s.2 = some e → s.1 < e ∧ e ≤ 1000000000000
theorem atI_ge {α : Type} {l : List α} {r : Int} (h0 : 0 ≤ r) (h1 : r < l.length) : ∃ a ∈ l, atI l r = some a := by
  have e : r = ((r.toNat : Nat) : Int) := by omega
  have hl : r.toNat < l.length := by omega
  rw [e, atI_nat0, List.getElem?_eq_getElem hl]
  exact ⟨_, List.getElem_mem hl, rfl⟩
theorem pick {l : List Int} {r : Int} (h0 : 0 ≤ r) (h1 : r < l.length) : ∃ m ∈ l, atI (l.map D.int) r = some (.int m) := by
  obtain ⟨a, ha, e⟩ := atI_ge (l := l.map D.int) h0 (by simpa using h1)
  obtain ⟨m, hm, rfl⟩ := List.mem_map.mp ha
  exact ⟨m, hm, e⟩
theorem set_set' {α : Type} (l : List α) (n : Nat) (a b : α) : (l.set n a).set n b = l.set n b := by simp
/-! ### a comprehension whose turns change nothing -/
def lcTurn (σ0 : List (Option D)) (own : List Nat) (g : MG) (t : M Bool) (e : M D) (x : D) (W : Wd) (k : Option D → Wd → Prop) : Prop :=
  g x ⟨wipeA σ0 own, W⟩ fun S1 => t S1 (fun b S2 => if b = true then e S2 (fun d S3 => k (some d) S3.W) NoX else k none S2.W) NoX
theorem lcL_turn {σ0 : List (Option D)} {own : List Nat} {h : Nat} {chk : Wd → Prop} {g : MG} {t : M Bool} {e : M D} {x : D} {xs : List D} {W : Wd} {k : Wd → Prop}
    (q : lcTurn σ0 own g t e x W fun od W3 => match od with
      | some d => (match W3[h]? with
        | some (.lst l) => l.length < sizeLine ∧ chk (W3.set h (.lst (l ++ [d]))) ∧ lcL σ0 own h chk g t e xs (W3.set h (.lst (l ++ [d]))) k
        | _ => False)
      | none => chk W3 ∧ lcL σ0 own h chk g t e xs W3 k) : lcL σ0 own h chk g t e (x :: xs) W k := q
theorem lcL_pure {σ0 : List (Option D)} {own : List Nat} {chk : Wd → Prop} {g : MG} {t : M Bool} {e : M D} {k : Wd → Prop} {W0 : Wd} (r : D → Option D) : ∀ {xs acc : List D}, (∀ x ∈ xs, ∀ acc k, k (r x) (W0 ++ [.lst acc]) → lcTurn σ0 own g t e x (W0 ++ [.lst acc]) k) →
    (∀ acc, chk (W0 ++ [.lst acc])) → acc.length + xs.length ≤ 1000000 → k (W0 ++ [.lst (acc ++ xs.filterMap r)]) → lcL σ0 own W0.length chk g t e xs (W0 ++ [.lst acc]) k
  | [], acc, hT, hc, hl, hk => by simpa [lcL] using hk
  | x :: xs, acc, hT, hc, hl, hk => by
    refine lcL_turn (hT x List.mem_cons_self acc _ ?_)
    simp only [List.length_cons] at hl
    cases e1 : r x with
    | none =>
      refine ⟨hc acc, lcL_pure r (fun y hy => hT y (List.mem_cons_of_mem _ hy)) hc (by omega) ?_⟩
      simpa [List.filterMap_cons, e1] using hk
    | some d =>
      have e2 : (W0 ++ [O.lst acc])[W0.length]? = some (.lst acc) := by rw [List.getElem?_append_right (Nat.le_refl _)]; simp
      have e3 : (W0 ++ [O.lst acc]).set W0.length (.lst (acc ++ [d])) = W0 ++ [.lst (acc ++ [d])] := by simp
      simp only [e2, e3]
      refine ⟨sz_lt (by omega), hc _, lcL_pure r (fun y hy => hT y (List.mem_cons_of_mem _ hy)) hc (by simp; omega) ?_⟩
      simpa [List.filterMap_cons, e1, List.append_assoc] using hk
theorem lcFin_frz {S1 : AS} {P : D → AS → Prop} {l : List D} (hb : D.bels S1.W.length l = true) (h : P (.lst l) ⟨S1.σ, S1.W⟩) : lcFin true S1 P (S1.W ++ [.lst l]) := by
  unfold lcFin
  rw [if_pos rfl]
  exact ⟨S1.W, l, rfl, rfl, Cl.refl _, hb, h⟩
theorem bels_ints (n : Nat) : ∀ l : List Int, D.bels n (l.map D.int) = true
  | [] => by simp [D.bels]
  | a :: l => by simp [D.bels, D.bel, bels_ints n l]
theorem lays_ints (n : Nat) : ∀ l : List Int, D.lays n (l.map D.int) = true
  | [] => by simp [D.lays]
  | a :: l => by simp [D.lays, D.lay, lays_ints n l]
/-! ### a loop by what holds between its turns -/
theorem loop_ind {α : Type} {chk : Wd → Prop} {step : D → MS} {E : AEnds} {S : AS} (enc : α → D) (I : List α → AS → Prop) (all : List α) (h0 : I [] S) (hc : ∀ pre S, I pre S → chk S.W)
    (hs : ∀ pre x post S, all = pre ++ x :: post → I pre S → ∀ N : AS → Prop, (∀ S', I (pre ++ [x]) S' → N S') → step (enc x) S { E with nx := N, ct := N, bk := E.nx }) (he : ∀ S, I all S → E.nx S) :
    loop chk step (all.map enc) S E := by
  have key : ∀ (post pre : List α) (S : AS), all = pre ++ post → I pre S → loop chk step (post.map enc) S E := by
    intro post
    induction post with
    | nil =>
      intro pre S e i
      rw [List.append_nil] at e
      subst e
      exact he S i
    | cons x post ih =>
      intro pre S e i
      refine hs pre x post S e i _ fun S' i' => ?_
      exact ⟨hc _ _ i', ih (pre ++ [x]) S' (by rw [e]; simp) i'⟩
  exact key all [] S (by simp) h0
theorem inSt_if (e m b0 : Int) : (match (if e ≤ b0 then none else some (b0, some e) : Option Strt) with
    | none => false
    | some s => inSt s m) = (decide (b0 ≤ m) && decide (m < e)) := by
  by_cases c : e ≤ b0
  · rw [if_pos c, Bool.eq_iff_iff]
    simp
    omega
  · rw [if_neg c]
    rfl
theorem inSt_common {a b : Strt} {m : Int} : (inSt a m && inSt b m) = match common a b with
    | none => false
    | some s => inSt s m := by
  obtain ⟨a1, a2⟩ := a
  obtain ⟨b1, b2⟩ := b
  unfold common
  cases a2 <;> cases b2 <;> simp only [earlierEnd, inSt_if] <;> rw [Bool.eq_iff_iff] <;> simp [inSt] <;> omega
end Tw

set_option Elab.async false
set_option linter.all false
set_option maxRecDepth 100000
set_option maxHeartbeats 4000000
namespace Tw
open PySem PySem.Spec PyProof.Rows L2
/-- the stream's list: a cell (by its digits), or a number that goes on by itself -/
def rowO (c w : Int) : O := .lst [.int c, .int w]
def rowOk (c w : Int) : Prop := w = 0 ∨ (w = 1 ∧ 0 ≤ c ∧ c < 536870909)
section
variable {K : PySem.W.Frag} {WE : WX}
/-- a new dict: frozen, or with a handle -/
def newD (h : Bool) (ks : List Key) (l : List D) : M D := fun S P _ => if h = true then P (.hnd S.W.length) ⟨S.σ, S.W ++ [.dct ks l]⟩ else P (.dct ks l) S
theorem newD_t (ks : List Key) (l : List D) : newD true ks l = fun S P _ => P (.hnd S.W.length) ⟨S.σ, S.W ++ [.dct ks l]⟩ := rfl
theorem newD_f (ks : List Key) (l : List D) : newD false ks l = fun S P _ => P (.dct ks l) S := rfl
theorem newD_ok {h : Bool} {ks : List Key} {l : List D} {B : Hp} {φ : List Addr} {S : AS} {σ : L2.St} {H : Hp} {Q : VK} (R : Rel K B φ S σ H) (q : Run K WE (fun B φ => Rep K B φ) (newD h ks l) B φ S σ H Q) {kvs : List (Key × V)} (hk : kvs.map (·.1) = ks)
    (r : Reps K B φ l (kvs.map (·.2))) {p : Addr} (hp : H p = none) : Q (.ref p) (upd H p (.dK kvs)) := by
  obtain ⟨P, Xx, h1, h2, h3⟩ := q
  cases h with
  | true =>
    have g : P (.hnd S.W.length) ⟨S.σ, S.W ++ [.dct ks l]⟩ := h1
    obtain ⟨w, e⟩ := R.w.add (o := .dct ks l) (ho := .dK kvs) hp ⟨kvs, upd_same, hk, r⟩
    refine h2 _ _ _ _ _ _ g e (R.ext e w) ?_
    simp only [Rep]
    exact ⟨p, by rw [← R.w.len, List.getElem?_append_right (Nat.le_refl _)]; simp, rfl⟩
  | false =>
    have g : P (.dct ks l) S := h1
    obtain ⟨w, e⟩ := R.w.frz (o := .dK kvs) hp
    refine h2 _ _ _ _ _ _ g e (R.ext e w) ?_
    simp only [Rep]
    exact ⟨p, kvs, rfl, .inl upd_same, hk, r.mono e _ _⟩
end
theorem mChain_eq (o1 o2 : Dop) (fa fb fc : M D) : mChain o1 o2 fa fb fc = M.bind fa fun x => M.bind fb fun y => fun S P X => o1 x y S (fun d S1 => match d with
  | .bl b => if b = true then M.bind fc (fun z => o2 y z) S1 P X else P (.bl false) S1
  | _ => False) X := by
  unfold mChain
  congr
  funext x
  congr
  funext y S P X
  unfold M.bind
  congr
  funext d S3
  cases d <;> try rfl
  rename_i b
  cases b <;> rfl
theorem sgn_list (c : Nat) : (⟨#[c]⟩ : Str).cps.toList = [c] := rfl
theorem cpow13 : CPow 10 13 = True := eq_true (by unfold CPow; decide)
theorem p13 : (10 : Int) ^ (13 : Int).toNat = 10000000000000 := by decide
theorem negb_f (b : Bool) : negb false b = b := rfl
theorem negb_t (b : Bool) : negb true b = !b := rfl
theorem op_inF {X : Cx} (hu : X.A.units + 64 < cLine) : OpR X (compareOp .In) (rInAll X.K false) := op_inAll hu false
theorem op_inT {X : Cx} (hu : X.A.units + 64 < cLine) : OpR X (compareOp .NotIn) (rInAll X.K true) := op_inAll hu true
section
variable {X : Cx} {WE : WX} {pos : Pos}
theorem de_dct0 {h : Bool} : PE X (.Dict [] [] pos) (tE X.K WE (newD h [] [])) := PE.weak pe_dnewK fun σ H Q q => by
  obtain ⟨B, φ, S, R, run⟩ := q
  exact fun p hp => newD_ok (WE := WE) R run (kvs := []) rfl Reps.nil hp
/-- z.find(y) -/
def gFind (d : D) (ds : List D) : M D := fun S P _ => match d, ds with
  | .str a, [.str b] => P (.int (Txt.find a b)) S
  | _, _ => False
theorem ma_find : MtA X.K WE "str" (fun x xs H Q => ∃ a b, x = .str a ∧ xs = [.str b] ∧ Q (.int (Txt.find a b)) H) gFind := by
  intro B φ S σ H d ds x vs Q R r rs q
  obtain ⟨P, Xx, h1, h2, h3⟩ := q
  unfold gFind at h1
  split at h1
  · rename_i a b
    obtain ⟨v, rfl, rv⟩ := one_inv rs
    simp only [Rep] at r rv
    subst r; subst rv
    exact ⟨a, b, rfl, rfl, Run.fin h2 h1 R (by simp only [Rep])⟩
  · exact h1.elim
/-- isinstance with a tuple of built-in types, just laid -/
def isTs (t : String) (l : List String) : Bool := l.any fun n => isT t n
def mTys (l : List String) : M (List D) := fun S P _ => P (l.map D.ty) S
def bIsiT (l : List String) (d : D) : M D := fun S P _ => match tyN S.W d with
  | some t => P (.bl (isTs t l)) S
  | none => False
theorem kitAny_ty {K : PySem.W.Frag} {t : String} (ht : t ∈ ["NoneType", "bool", "int", "str", "tuple", "list", "dict"]) : ∀ l : List String, (∀ n ∈ l, n ∈ ["int", "str", "bool", "tuple", "list", "dict"]) → PySem.W.kitAny K (.type t) (l.map Value.type) = some (isTs t l)
  | [], _ => rfl
  | n :: l, h => kitAny_cons (kit_ty (isT_ok t ht n (h n List.mem_cons_self))) (fun e => by
      rw [kitAny_ty ht l fun m hm => h m (List.mem_cons_of_mem _ hm)]
      simp [isTs, e]) fun e => by simp [isTs, e]
theorem reps_tys {K : PySem.W.Frag} {B : Hp} {φ : List Addr} : ∀ {l : List String} {xs : List V}, Reps K B φ (l.map D.ty) xs → xs = l.map V.ty
  | [], xs, h => by rw [h.nil_inv]; rfl
  | n :: l, xs, h => by
    obtain ⟨x, r, rfl, h1, t⟩ := h.cons_inv
    simp only [Rep] at h1
    rw [h1, reps_tys t]
    rfl
theorem clsv_tys : ∀ l : List String, Paired ClsV (l.map V.ty) (l.map Value.type)
  | [] => .nil
  | n :: l => .cons (.ty n) (clsv_tys l)
theorem de_isiT {a : Expr} {es : List Expr} {fx : M D} {tys : List String} {p p2 : Pos} {x1} (hm : X.mg "isinstance" = none) (hv : bootBuiltins "isinstance" = some (.builtin "isinstance")) (hx : PE X a (tE X.K WE fx)) (hes : PA X es (tA X.K WE (mTys tys)))
    (hin : ∀ n ∈ tys, n ∈ ["int", "str", "bool", "tuple", "list", "dict"]) (hl : tys.length ≤ 9) (hg : Gl X "isinstance" := by rfl) (hs : starEach [a, .Tuple es x1 p2] X.env = (false, eval a X.env) :: starEach [.Tuple es x1 p2] X.env := by rfl)
    (hs2 : starEach [.Tuple es x1 p2] X.env = (false, eval (.Tuple es x1 p2) X.env) :: starEach [] X.env := by rfl) (hpl : (backTo pos (starEach [.Tuple es x1 p2] X.env)).any (·.1) = false := by rfl) :
    PE X (.Call (.Name "isinstance" p) [a, .Tuple es x1 p2] [] pos) (tE X.K WE (M.bind fx (bIsiT tys))) :=
  PE.weak (pe_callB call_isiT hg hm hv (pa_cons hx (pa_cons (pe_tup hes) pa_nil hs2) hs) (by decide) (by decide) hs hpl) fun σ H Q h => by
    obtain ⟨B, φ, S, R, run⟩ := h
    refine ⟨B, φ, S, R, run.bind.imp ?_⟩
    rintro x H1 ⟨d, B1, φ1, S1, e1, R1, r1, P, Xx, h1, h2, h3⟩
    unfold bIsiT at h1
    split at h1
    · rename_i t e
      obtain ⟨ty, ht⟩ := tyN_ok R1.w r1 e
      refine ⟨B1, φ1, S1, R1, fun ds S2 => ds = tys.map D.ty ∧ S2 = S1, fun _ _ => False, ⟨rfl, rfl⟩, ?_, by intros; contradiction⟩
      rintro ds S2 xs B2 φ2 H2 ⟨rfl, rfl⟩ e2 R2 r2
      have ex := reps_tys r2
      subst ex
      refine ⟨by rw [List.length_map]; exact sz_small (by omega), fun q hq => ?_⟩
      obtain ⟨w, e3⟩ := R2.w.frz (o := .tup (tys.map V.ty)) hq
      refine ⟨x, q, tys.map V.ty, .type t, tys.map Value.type, isTs t tys, rfl, upd_same, clsv_tys tys, ?_, kitAny_ty ht tys hin, h2 _ _ _ _ _ _ h1 (e2.trans e3) (R2.ext e3 w) (by simp only [Rep])⟩
      exact (tyN_ok w (r1.mono (e2.trans e3) _ _) e).1
    · exact h1.elim
/-- range with a step -/
def rngC (i c : Int) (n : Nat) : List D := (List.range n).map fun k => .int (i + (k : Nat) * c)
variable {tg : Expr}
theorem itOk_rngC {K : PySem.W.Frag} {B : Hp} {φ : List Addr} {i c : Int} {n : Nat} : ItOk K B φ (rngC i c n) (fun _ => True) (Itc i c n) := by
  refine ⟨fun j B1 φ1 W H e1 R _ hi => ?_, fun j B1 φ1 W H x H' e1 R _ y d' hd' => ?_, fun j B1 φ1 W H e1 R _ hi => ?_⟩
  · show j < n
    simpa [rngC] using hi
  · obtain ⟨rfl, rfl⟩ := y
    unfold rngC at hd'
    rw [List.getElem?_map] at hd'
    by_cases hj : j < n
    · rw [List.getElem?_range hj] at hd'
      cases hd'
      exact ⟨B1, Ext.refl _ _, R, by simp only [Rep]⟩
    · rw [List.getElem?_eq_none (by simpa using hj)] at hd'
      cases hd'
  · show n ≤ j
    simp [rngC] at hi
    omega
def bRange3 (ds : List D) : M Items := fun S P _ => match ds with
  | [.int i, .int j, .int c] => ∃ n, RgC i j c n ∧ P (rngC i c n, fun _ => True) S
  | _ => False
theorem di_range3 {a b c : Expr} {ga : M (List D)} {p : Pos} (hm : X.mg "range" = none) (ha : PA X [a, b, c] (tA X.K WE ga)) (hg : Gl X "range" := by rfl)
    (hs : starEach [a, b, c] X.env = (false, eval a X.env) :: starEach [b, c] X.env := by rfl) (hpl : (backTo pos (starEach [b, c] X.env)).any (·.1) = false := by rfl) : PI X tg (.Call (.Name "range" p) [a, b, c] [] pos) (tIt X.K WE (M.bind ga bRange3)) :=
  PI.weak (pi_range3 hg hm ha hs hpl) fun σ H Q h => by
    obtain ⟨B, φ, S, R, run⟩ := h
    refine ⟨B, φ, S, R, run.bind.imp ?_⟩
    rintro xs H1 ⟨ds, B1, φ1, S1, e1, R1, r1, P, Xx, h1, h2, h3⟩
    unfold bRange3 at h1
    split at h1
    · rename_i i j k
      obtain ⟨v, r, rfl, rv, r2⟩ := r1.cons_inv
      obtain ⟨u, z, rfl, ru, rz⟩ := two_inv r2
      simp only [Rep] at rv ru rz
      subst rv; subst ru; subst rz
      obtain ⟨n, hn, h1⟩ := h1
      exact ⟨i, j, k, n, rfl, hn, h2 _ _ _ _ _ _ h1 (Ext.refl _ _) R1 itOk_rngC⟩
    · exact h1.elim
end
end Tw

set_option Elab.async false
set_option linter.all false
set_option maxRecDepth 100000
set_option maxHeartbeats 4000000
namespace Tw
open PySem PySem.Spec PyProof.Rows L2
/-! ### a comprehension whose turns may change the world ahead of its own list -/
theorem lcL_ind {σ0 : List (Option D)} {own : List Nat} {n : Nat} {chk : Wd → Prop} {g : MG} {t : M Bool} {e : M D} {k : Wd → Prop} {α : Type} (enc : α → D) (I : List α → List D → Wd → Prop) (all : List α) (W0 : Wd) (hW0 : W0.length = n) (h0 : I [] [] W0) (hc : ∀ W, chk W) (hl : all.length ≤ 1000000)
    (hs : ∀ pre x post acc W, all = pre ++ x :: post → W.length = n → I pre acc W → ∀ N : Option D → Wd → Prop, (∀ d W', W'.length = n → I (pre ++ [x]) (acc ++ d.toList) W' → N d (W' ++ [.lst acc])) → lcTurn σ0 own g t e (enc x) (W ++ [.lst acc]) N)
    (he : ∀ acc W, W.length = n → acc.length ≤ all.length → I all acc W → k (W ++ [.lst acc])) : lcL σ0 own n chk g t e (all.map enc) (W0 ++ [.lst []]) k := by
  have key : ∀ (post pre : List α) (acc : List D) (W : Wd), all = pre ++ post → W.length = n → acc.length ≤ pre.length → I pre acc W → lcL σ0 own n chk g t e (post.map enc) (W ++ [.lst acc]) k := by
    intro post
    induction post with
    | nil =>
      intro pre acc W ea hW hz i
      rw [List.append_nil] at ea
      subst ea
      exact he acc W hW hz i
    | cons x post ih =>
      intro pre acc W ea hW hz i
      refine lcL_turn (hs pre x post acc W ea hW i _ ?_)
      intro d W' hW' i'
      have hp : pre.length < all.length := by rw [ea]; simp
      have ea2 : all = (pre ++ [x]) ++ post := by rw [ea]; simp
      cases d with
      | none =>
        simp only [Option.toList_none, List.append_nil] at i'
        exact ⟨hc _, ih (pre ++ [x]) acc W' ea2 hW' (by simp; omega) i'⟩
      | some d =>
        have e2 : (W' ++ [O.lst acc])[n]? = some (.lst acc) := by rw [← hW', List.getElem?_append_right (Nat.le_refl _)]; simp
        have e3 : (W' ++ [O.lst acc]).set n (.lst (acc ++ [d])) = W' ++ [.lst (acc ++ [d])] := by rw [← hW']; simp
        simp only [e2, e3]
        simp only [Option.toList_some] at i'
        exact ⟨sz_lt (by omega), hc _, ih (pre ++ [x]) (acc ++ [d]) W' ea2 hW' (by simp; omega) i'⟩
  exact key all [] [] W0 (by simp) hW0 (Nat.le_refl _) h0
theorem Cl_set {W : Wd} {n : Nat} {o : O} (h : o.bel W.length = true) : Cl W (W.set n o) := by
  intro i u hu
  rw [List.getElem?_set] at hu
  split at hu
  · split at hu
    · cases hu
      right
      simpa using h
    · cases hu
  · exact .inl hu
theorem set_self {W : Wd} {n : Nat} {o : O} (h : W[n]? = some o) : W.set n o = W := by
  obtain ⟨hn, e⟩ := List.getElem?_eq_some_iff.mp h
  rw [← e]
  exact List.set_getElem_self hn
theorem lcFin_frz2 {S1 : AS} {P : D → AS → Prop} {l : List D} {W : Wd} (hl : W.length = S1.W.length) (c : Cl S1.W W) (hb : D.bels S1.W.length l = true) (h : P (.lst l) ⟨S1.σ, W⟩) : lcFin true S1 P (W ++ [.lst l]) := by
  unfold lcFin
  rw [if_pos rfl]
  exact ⟨W, l, rfl, hl, c, hb, h⟩
theorem rngD0 (n : Nat) : rngD 0 n = (List.range n).map fun k : Nat => D.int (k : Int) := by
  unfold rngD
  simp
theorem join1_len {l : List Str} (h : ∀ a ∈ l, a.length = 1) : (Txt.join "" l).length = l.length := PySem.W.KT.join_ones l h
theorem sum_ones : ∀ {l : List Str}, (∀ a ∈ l, a.length = 1) → (l.map fun z => z.length).sum = l.length
  | [], _ => rfl
  | a :: l, h => by
    rw [List.map_cons, List.sum_cons, h a List.mem_cons_self, sum_ones fun b hb => h b (List.mem_cons_of_mem _ hb), List.length_cons]
    omega
theorem rowO_bel (n : Nat) (c w : Int) : (rowO c w).bel n = true := by simp [rowO, O.bel, D.bels, D.bel]
theorem bels_strs (n : Nat) : ∀ l : List Str, D.bels n (l.map D.str) = true
  | [] => by simp [D.bels]
  | a :: l => by simp [D.bels, D.bel, bels_strs n l]
theorem lays_strs (n : Nat) : ∀ l : List Str, D.lays n (l.map D.str) = true
  | [] => by simp [D.lays]
  | a :: l => by simp [D.lays, D.lay, lays_strs n l]
/-! ### texts -/
theorem len_cps (s : Str) : s.cps.toList.length = s.length := by simp [Str.length]
theorem len_add (a b : Str) : (a ++ b).length = a.length + b.length := Str.length_append a b
theorem cps_add (a b : Str) : (a ++ b).cps.toList = a.cps.toList ++ b.cps.toList := by
  show (a.cps ++ b.cps).toList = _
  simp
theorem len_cut (s : Str) (lo hi : Option Int) : (cutS s lo hi).length ≤ s.length := cutS_length s lo hi
theorem len_one (c : Nat) : (⟨#[c]⟩ : Str).length = 1 := rfl
theorem str_ext {a b : Str} (h : a.cps.toList = b.cps.toList) : a = b := by
  cases a; cases b
  simp only [Str.mk.injEq]
  exact Array.toList_inj.mp h
theorem len0 {s : Str} (h : s.length = 0) : s = "" := str_ext (by
  have : s.cps.toList = [] := List.eq_nil_of_length_eq_zero (by rw [len_cps]; exact h)
  rw [this]
  decide +kernel)
def isSmall (c : Nat) : Bool := decide (97 ≤ c) && decide (c ≤ 122)
theorem abc_mem (c : Nat) : decide (c ∈ ("abcdefghijklmnopqrstuvwxyz" : Str).cps.toList) = isSmall c := by
  have e : ("abcdefghijklmnopqrstuvwxyz" : Str).cps.toList = (List.range 26).map (97 + ·) := by decide +kernel
  rw [e, Bool.eq_iff_iff, decide_eq_true_eq, isSmall, Bool.and_eq_true, decide_eq_true_eq, decide_eq_true_eq, List.mem_map]
  constructor
  · rintro ⟨a, ha, rfl⟩
    rw [List.mem_range] at ha
    omega
  · intro h
    exact ⟨c - 97, by rw [List.mem_range]; omega, by omega⟩
theorem zyx_mem (c : Nat) : decide (c ∈ ("zyxwvutsrqponmlkjihgfedcba" : Str).cps.toList) = isSmall c := by
  have e : ("zyxwvutsrqponmlkjihgfedcba" : Str).cps.toList = ("abcdefghijklmnopqrstuvwxyz" : Str).cps.toList.reverse := by decide +kernel
  rw [← abc_mem, e]
  simp
theorem abc_iff (c : Nat) : (c ∈ ("abcdefghijklmnopqrstuvwxyz" : Str).cps.toList) = (isSmall c = true) := by rw [← abc_mem]; simp
theorem zyx_iff (c : Nat) : (c ∈ ("zyxwvutsrqponmlkjihgfedcba" : Str).cps.toList) = (isSmall c = true) := by rw [← zyx_mem]; simp
theorem abc_len : ("abcdefghijklmnopqrstuvwxyz" : Str).length = 26 := by decide +kernel
theorem abc_at {r : Int} (h0 : 0 ≤ r) (h1 : r < 26) : ∃ c, atI ("abcdefghijklmnopqrstuvwxyz" : Str).cps.toList r = some c ∧ isSmall c = true := by
  obtain ⟨c, hc, e⟩ := atI_ge (l := ("abcdefghijklmnopqrstuvwxyz" : Str).cps.toList) h0 (by rw [len_cps, abc_len]; exact h1)
  exact ⟨c, e, by rw [← abc_mem]; exact decide_eq_true hc⟩
def lowS (s : Str) : Bool := s.cps.toList.all isSmall
def isNameS (s : Str) : Bool := decide (1 ≤ s.length) && decide (s.length ≤ 8) && lowS s
/-- the signs of a text, walked -/
theorem walk_str (z : Str) : (z.cps.toList.map fun c => D.str ⟨#[c]⟩) = z.cps.toList.map (fun c => D.str ⟨#[c]⟩) := rfl
/-! ### things, names, moments, stretches -/
def plainD : D → Bool
  | .non => true
  | .bl _ => true
  | .int _ => true
  | .str s => decide (s.length ≤ 1000000)
  | .tup _ => true
  | .lst _ => true
  | .dct _ _ => true
  | _ => false
def isMo : D → Bool
  | .int i => decide (0 ≤ i) && decide (i ≤ 1000000000000)
  | _ => false
def isNm : D → Bool
  | .str s => isNameS s
  | _ => false
def gtD : D → D → Bool
  | .int i, .int j => decide (i < j)
  | _, _ => false
def isStc (b e : D) : Bool := isMo b && (isNon e || (isMo e && gtD b e))
end Tw

set_option Elab.async false
set_option linter.all false
set_option maxRecDepth 100000
set_option maxHeartbeats 4000000
namespace Tw
open PySem PySem.Spec PyProof.Rows L2
/-! ### sorted(d) of a dict, its keys ints: any number of them -/
def rSortDI : List V → Hp → VK → Prop := fun xs H Q => ∃ (a : Addr) (m : List (Key × V)) (ks : List Int), xs = [.ref a] ∧ Rd H a (.dK m) ∧ m.map (·.1) = ks.map Sum.inl ∧
  ∀ (ys : List Int) (p : Addr), ys.Perm ks → ys.Pairwise (· ≤ ·) → H p = none → Q (.ref p) (upd H p (.lst (ys.map V.int)))
theorem keys_ints {ks : List Int} {vs : List (Key × Value)} {us : List Value} (hk : vs.map (·.1) = ks.map Sum.inl) (hl : us.length = ks.length) (h : ∀ (j : Nat) (v : Value), us[j]? = some v → ∃ (k : Key) (x : Value), vs[j]? = some (k, x) ∧ keyIs k v = true) : IntsAre us ks := by
  refine ints_each hl fun j v e => ?_
  obtain ⟨k, x, e1, e2⟩ := h j v e
  have g : (ks.map Sum.inl)[j]? = some k := by rw [← hk, List.getElem?_map, e1]; rfl
  rw [List.getElem?_map, Option.map_eq_some_iff] at g
  obtain ⟨y, g1, rfl⟩ := g
  rcases keyIs_shape e2 with ⟨i, t, ek, ev⟩ | ⟨z, t, ek, ev⟩
  · cases ek; exact ⟨y, t, g1, ev⟩
  · cases ek
theorem call_sortDI {X : Cx} (hc : X.calm = true) : CallR X (.builtin "sorted") rSortDI := by
  rintro pins s σ H xs us Q I r ⟨a, m, ks, rfl, hd, hk, q⟩
  obtain ⟨u, rfl, rx⟩ := vals1 r
  cases rx
  obtain ⟨hz, lo, vs, rel, dd⟩ := dk_rd I.hok hd
  obtain ⟨ep, hat⟩ := dd.dictAt
  have hk2 : vs.map (·.1) = ks.map Sum.inl := rel.keys.symm.trans hk
  have hn : vs.length = ks.length := by simpa using congrArg List.length hk2
  have hv : vs.length ≤ sizeLine := by rw [← rel.length]; exact hz
  refine Calls.call_function_entry kind_sorted plain_sorted entry_sorted (args_sorted1 _) ?_
  show wpAny _ _ (checkCount "sorted" 1 1 _ >>= _) _ _ _
  refine wpAny_bind (wpAny_pure (wpAny_bind (PySem.W.kdu_collect (A := X.A.in1) (PySem.W.kdl_dict (knd := mixKind X.prog X.w) (kvs := vs) (ep := ep) lo) (I.ok.hd hc) hat hv fun h1 tk acc kp hacc => ?_)))
  have hal : acc.toList.length = ks.length := by simp [hacc.1, hn]
  have hS : IntsAre acc.toList ks := keys_ints hk2 hal fun j v e => hacc.2 j v (by simpa using e)
  have J : Inv X pins σ H { s with heap := h1, toks := tk } := I.kept kp
  refine wpAny_bind (wpAny_newList ?_ (by rw [hal, ← hn]; exact hv))
  have hob : (h1.push (seqObj "list" acc.toList.toArray 0)).get? h1.objs.size = some (seqObj "list" acc.toList.toArray 0) := Heap.get?_push_size _ rfl
  refine wpAny_bind (wpAny_holding (wpAny_call_entry slot_list_sort ⟨_, hob, rfl⟩ entry_list_sort
    (SrtO.list_sort_ord (s := { s with heap := h1.push (seqObj "list" acc.toList.toArray 0), toks := tk }) SrtO.swo_int hob (by rw [hal, ← hn]; exact hv) (fun h2 => SrtO.ints_sortable hS h2) fun out g1 g2 => ⟨_, rfl, ?_⟩) (args_list_sort _)))
  obtain ⟨i1, i2, i3⟩ := SrtO.ints_out hS g1 g2
  obtain ⟨e1, he1⟩ := sortedHeap_at (vs := acc.toList) (out := out.toArray) hob
  have hlen : ((out.map SrtO.iv).map V.int).length ≤ sizeLine := by
    rw [List.length_map, i2.length_eq, ← hn]
    exact hv
  refine wpAny_pure ⟨_, rfl, .ref h1.objs.size, upd H h1.objs.size (.lst ((out.map SrtO.iv).map V.int)), J.laid (t' := tk) (fun b u e => ?_) (Nat.le_refl _) ⟨hlen, out, e1, vals_of_ints i1, he1⟩, rfl, q _ _ i2 i3 (J.hok.fresh (Nat.le_refl _))⟩
  have hb := Heap.lt_size e
  exact (sortedHeap_old (Nat.ne_of_lt hb) (by rw [size_push']; exact Nat.lt_succ_of_lt hb)).trans (Heap.get?_push_of_some _ e)
section
variable {K : PySem.W.Frag} {WE : WX}
def bSortDI (h : Bool) (ds : List D) : M D := fun S P X => match ds with
  | [d] => ∃ (ks : List Int) (l : List D), rdD S.W d = some (ks.map Sum.inl, l) ∧ ∀ ys : List Int, ys.Perm ks → ys.Pairwise (· ≤ ·) → newL h (ys.map D.int) S P X
  | _ => False
theorem reps_of_ints {B : Hp} {φ : List Addr} : ∀ l : List Int, Reps K B φ (l.map D.int) (l.map V.int)
  | [] => Reps.nil
  | a :: l => Reps.cons (by simp only [Rep]) (reps_of_ints l)
theorem ca_sortDI {h : Bool} : CallA K WE rSortDI (bSortDI h) := by
  intro B φ S σ H ds vs Q R r q
  obtain ⟨P, Xx, h1, h2, h3⟩ := q
  unfold bSortDI at h1
  split at h1
  · rename_i d
    obtain ⟨v, rfl, rv⟩ := one_inv r
    obtain ⟨ks, l, e, h1⟩ := h1
    obtain ⟨a, m, rfl, hp, hk, hr⟩ := rdD_ok R.w rv e
    exact ⟨a, m, ks, rfl, hp, hk, fun ys p y1 y2 hp => newL_ok (WE := WE) R ⟨P, Xx, h1 ys y1 y2, h2, h3⟩ (reps_of_ints ys) hp⟩
  · exact h1.elim
end
/-! ### a def that calls itself: by how deep it goes -/
def cFalse : FC := fun _ _ _ _ => False
def recC (c : Nat → FC) : Nat → FC
  | 0 => cFalse
  | n + 1 => c n
theorem FT.fokF {fa : List He.Fa} {fx : List Fx} {fn : List He.DefD} {K : PySem.W.Frag} {mg : Str → Option Value} {P : Program} {w : World} {base : Heap} (T : FT fa fx fn K mg) (i j k : Nat) {x : Str} {d : He.DefD} {ps : List Str} (hi : fn[i]? = some d) (hj : fa[j]? = some (.glo x)) (ha : d.at_ = (x, none))
    (hd : d.dfl = []) (hk : d.kwd = [])
    (hb : ∀ fd, FunD K d.name d.qual d.params d.body d.scope [] [] (He.ga K x) fd → Binds K fd ps []) : FOk P w K mg base k x cFalse :=
  T.fok i j hi hj ha hd hk hb fun fd _ => ⟨fun vs H Q E ⟨_, _, _, _, _, _, _, _, h, _⟩ => h.elim, fun _ _ _ _ _ _ _ _ _ _ _ _ _ ⟨_, _, _, _, _, _, _, _, h, _⟩ => h.elim⟩
/-! ### zip of two lists, or of two tuples -/
def bZipA (ds : List D) : M Items := fun S P X => match ds with
  | [.tup l, .tup m] => P (zipD l m, fun _ => True) S
  | ds => bZip2 ds S P X
theorem itOk_zipT {K : PySem.W.Frag} {B : Hp} {φ : List Addr} {a b : Addr} {l m : List D} {chk : Wd → Prop} (r : Rep K B φ (.tup l) (.ref a)) (r2 : Rep K B φ (.tup m) (.ref b)) : ItOk K B φ (zipD l m) chk (RZ.ItzT K a b) := by
  have rd : ∀ {B1 φ1 W H} {a : Addr} {l : List D}, Rep K B φ (.tup l) (.ref a) → Ext B φ B1 φ1 → RelW K B1 φ1 W H → ∃ xs, SqT K H a xs ∧ Reps K B1 φ1 l xs := fun {B1 φ1 W H a l} r e1 R => by
    have r' := r.mono e1 _ _
    simp only [Rep] at r'
    obtain ⟨p, xs, e, h1, h2⟩ := r'
    cases e
    exact ⟨xs, R.sqT h1, h2⟩
  refine ⟨fun i B1 φ1 W H e1 R _ hi => ?_, fun i B1 φ1 W H x H' e1 R _ y d' hd' => ?_, fun i B1 φ1 W H e1 R _ hi => ?_⟩
  · obtain ⟨xs, h1, h2⟩ := rd r e1 R
    obtain ⟨ys, h3, h4⟩ := rd r2 e1 R
    rw [zipD_len] at hi
    exact ⟨xs, ys, xs[i]'(by rw [h2.length]; omega), ys[i]'(by rw [h4.length]; omega), h1, h3, List.getElem?_eq_getElem _, List.getElem?_eq_getElem _⟩
  · obtain ⟨xs, h1, h2⟩ := rd r e1 R
    obtain ⟨ys, h3, h4⟩ := rd r2 e1 R
    obtain ⟨T, x, y', rfl, hT, rfl, y1, y2⟩ := y
    rw [zipD_get] at hd'
    split at hd'
    · rename_i da db ea eb
      cases hd'
      obtain ⟨v, hv, rv⟩ := h2.get ea
      obtain ⟨u, hu, ru⟩ := h4.get eb
      rw [y1 xs h1] at hv
      cases hv
      rw [y2 ys h3] at hu
      cases hu
      obtain ⟨w, e⟩ := R.frz (o := .tup [x, y']) hT
      refine ⟨_, e, w, ?_⟩
      simp only [Rep]
      exact ⟨T, _, rfl, SqT.of upd_same, Reps.cons (rv.mono e _ _) (Reps.cons (ru.mono e _ _) Reps.nil)⟩
    · cases hd'
  · obtain ⟨xs, h1, h2⟩ := rd r e1 R
    obtain ⟨ys, h3, h4⟩ := rd r2 e1 R
    rw [zipD_len] at hi
    refine ⟨xs, ys, h1, h3, ?_⟩
    rw [h2.length, h4.length]
    omega
section
variable {X : Cx} {WE : WX} {pos : Pos}
theorem di_zipA {a b : Expr} {ga : M (List D)} {p tpos : Pos} {elts : List Expr} {kk : Nat} (hm : X.mg "zip" = none) (ha : PA X [a, b] (tA X.K WE ga)) (hg : Gl X "zip" := by rfl)
    (hs : starEach [a, b] X.env = (false, eval a X.env) :: starEach [b] X.env := by rfl) (hpl : (backTo pos (starEach [b] X.env)).any (·.1) = false := by rfl) : PI X (.Tuple elts kk tpos) (.Call (.Name "zip" p) [a, b] [] pos) (tIt X.K WE (M.bind ga bZipA)) :=
  PI.weak (RZ.pi_zipA hg hm ha hs hpl) fun σ H Q h => by
    obtain ⟨B, φ, S, R, run⟩ := h
    refine ⟨B, φ, S, R, run.bind.imp ?_⟩
    rintro xs H1 ⟨ds, B1, φ1, S1, e1, R1, r1, P, Xx, h1, h2, h3⟩
    unfold bZipA at h1
    split at h1
    · rename_i l m
      obtain ⟨v, u, rfl, rv, ru⟩ := two_inv r1
      have rv' := rv
      have ru' := ru
      simp only [Rep] at rv' ru'
      obtain ⟨p, xs, rfl, hp, hr⟩ := rv'
      obtain ⟨p2, ys, rfl, hp2, hr2⟩ := ru'
      exact ⟨p, p2, xs, ys, rfl, .inr ⟨R1.w.sqT hp, R1.w.sqT hp2, h2 _ _ _ _ _ _ h1 (Ext.refl _ _) R1 (itOk_zipT rv ru)⟩⟩
    · unfold bZip2 at h1
      split at h1
      · rename_i d d2 _
        obtain ⟨v, u, rfl, rv, ru⟩ := two_inv r1
        split at h1
        · rename_i l m el em
          obtain ⟨p, xs, rfl, hp, hr⟩ := rdL_ok R1.w rv el
          obtain ⟨p2, ys, rfl, hp2, hr2⟩ := rdL_ok R1.w ru em
          exact ⟨p, p2, xs, ys, rfl, .inl ⟨hp, hp2, h2 _ _ _ _ _ _ h1 (Ext.refl _ _) R1 (itOk_zip rv ru)⟩⟩
        · exact h1.elim
      · exact h1.elim
end
/-! ### reading in a grown world -/
theorem rdL_app {W : Wd} {d : D} {l : List D} (h : rdL W d = some l) (g : Wd) : rdL (W ++ g) d = some l := by
  cases d with
  | hnd n =>
    simp only [rdL] at h ⊢
    split at h
    · rename_i l' e
      rw [List.getElem?_append_left (List.getElem?_eq_some_iff.mp e).1, e]
      exact h
    · cases h
  | _ => simpa only [rdL] using h
theorem rdM_app {W : Wd} {d : D} {l : List D} (h : rdM W d = some l) (g : Wd) : rdM (W ++ g) d = some l := by
  cases d with
  | sq l => simp only [rdM] at h; cases h
  | _ => simpa only [rdM] using rdL_app (by simpa only [rdM] using h) g
theorem rdM_rdL {W : Wd} {d : D} {l : List D} (h : rdM W d = some l) : rdL W d = some l := by
  cases d with
  | sq l => simp only [rdM] at h; cases h
  | _ => simpa only [rdM] using h
theorem vw_rdL {W : Wd} {d : D} {l : List D} (h : rdM W d = some l) : vw W d = .lst l := by
  cases d with
  | hnd n =>
    simp only [rdM, rdL] at h
    split at h
    · rename_i l' e
      cases h
      rw [vw_hnd, e]
    · cases h
  | lst l' => simp only [rdM, rdL, Option.some.injEq] at h; subst h; rfl
  | _ => simp only [rdM, rdL] at h <;> cases h
theorem isLst_of {S : AS} {d : D} {l : List D} (h : rdL S.W d = some l) : isLst S d := ⟨l, h⟩
/-- a list handed out: frozen, or as the asker's own -/
def lstR (P : D → Wd → Prop) (W : Wd) (l : List D) : Prop := P (.lst l) W ∨ P (.hnd W.length) (W ++ [.lst l])
theorem Done.own {W : Wd} {P : D → Wd → Prop} {l : List D} {g g2 : Wd} (hb : D.bels W.length l = true) (h : lstR P W l) : Done W P (.hnd (W.length + g.length)) (W ++ g ++ .lst l :: g2) := by
  refine .inr ⟨W, g ++ .lst l :: g2, by simp, rfl, Cl.refl _, .inr ⟨_, l, rfl, by omega, ?_, hb, h⟩⟩
  rw [List.append_assoc, List.getElem?_append_right (by omega), List.getElem?_append_right (by omega)]
  simp
theorem Done.own0 {W : Wd} {P : D → Wd → Prop} {l : List D} {g2 : Wd} (hb : D.bels W.length l = true) (h : lstR P W l) : Done W P (.hnd W.length) (W ++ .lst l :: g2) := by
  have := Done.own (g := []) (g2 := g2) hb h
  simpa using this
theorem Done.val {W : Wd} {P : D → Wd → Prop} {d : D} {g : Wd} (hb : d.bel W.length = true) (h : P d W) : Done W P d (W ++ g) := .inr ⟨W, g, rfl, rfl, Cl.refl _, .inl ⟨hb, h⟩⟩
end Tw

set_option Elab.async false
set_option linter.all false
set_option maxRecDepth 100000
set_option maxHeartbeats 4000000
namespace Tw
open PySem PySem.Spec PyProof.Rows L2
/-! ### lines: rows of begin, end and what stands there -/
abbrev Tl := List (Option Str)
abbrev LRow := Int × Option Int × Tl
def rowD (r : LRow) : D := .tup (.int r.1 :: oD r.2.1 :: r.2.2.map oS)
def rst (r : LRow) : Strt := (r.1, r.2.1)
/-- what stands at a moment: of the first row that has it -/
def atL : List LRow → Int → Option Tl
  | [], _ => none
  | r :: l, m => if inSt (rst r) m = true then some r.2.2 else atL l m
/-- rising rows, none below lo -/
def Prp : Int → List LRow → Prop
  | _, [] => True
  | lo, (b, e, _) :: l => lo ≤ b ∧ match e with
    | none => l = []
    | some e => b < e ∧ Prp e l
/-- .. and neighbours unlike -/
def Can : Int → Option Tl → List LRow → Prop
  | _, _, [] => True
  | lo, t0, (b, e, t) :: l => lo ≤ b ∧ (b = lo → t0 ≠ some t) ∧ match e with
    | none => l = []
    | some e => b < e ∧ Can e (some t) l
theorem Can.prp : ∀ {l : List LRow} {lo : Int} {t : Option Tl}, Can lo t l → Prp lo l
  | [], _, _, _ => True.intro
  | (b, none, t) :: l, lo, t0, h => ⟨h.1, h.2.2⟩
  | (b, some e, t) :: l, lo, t0, h => ⟨h.1, h.2.2.1, Can.prp h.2.2.2⟩
theorem Prp.mono {lo lo' : Int} (h : lo' ≤ lo) : ∀ {l : List LRow}, Prp lo l → Prp lo' l
  | [], _ => True.intro
  | (b, none, t) :: l, q => ⟨Int.le_trans h q.1, q.2⟩
  | (b, some e, t) :: l, q => ⟨Int.le_trans h q.1, q.2⟩
theorem inSt_none (b m : Int) : inSt (b, none) m = decide (b ≤ m) := by simp [inSt]
theorem inSt_some (b e m : Int) : inSt (b, some e) m = (decide (b ≤ m) && decide (m < e)) := by simp [inSt]
theorem atL_lo : ∀ {l : List LRow} {lo m : Int}, Prp lo l → m < lo → atL l m = none
  | [], _, _, _, _ => rfl
  | (b, none, t) :: l, lo, m, h, hm => by
    have h1 := h.1
    have h2 : l = [] := h.2
    subst h2
    have : inSt (rst (b, none, t)) m = false := by rw [rst, inSt_none]; simp; omega
    simp [atL, this]
  | (b, some e, t) :: l, lo, m, h, hm => by
    obtain ⟨h1, h2, h3⟩ := h
    have : inSt (rst (b, some e, t)) m = false := by rw [rst, inSt_some]; simp; omega
    simp only [atL, this]
    exact atL_lo h3 (by omega)
theorem atL_none {b : Int} {t : Tl} {l : List LRow} {m : Int} : atL ((b, none, t) :: l) m = if b ≤ m then some t else atL l m := by
  simp only [atL, rst, inSt_none, decide_eq_true_eq]
theorem atL_some {b e : Int} {t : Tl} {l : List LRow} {m : Int} : atL ((b, some e, t) :: l) m = if b ≤ m ∧ m < e then some t else atL l m := by
  simp only [atL, rst, inSt_some, Bool.and_eq_true, decide_eq_true_eq]
/-- a canonical line is given by what it tells -/
theorem Can.uniq : ∀ {l1 l2 : List LRow} {lo1 lo2 : Int} {t1 t2 : Option Tl}, Can lo1 t1 l1 → Can lo2 t2 l2 → (∀ m, atL l1 m = atL l2 m) → l1 = l2
  | [], [], _, _, _, _, _, _, _ => rfl
  | [], (b, e, t) :: l2, _, _, _, _, _, h2, q => by
    have := q b
    cases e with
    | none => rw [atL_none, if_pos (Int.le_refl _)] at this; simp [atL] at this
    | some e => rw [atL_some, if_pos ⟨Int.le_refl _, h2.2.2.1⟩] at this; simp [atL] at this
  | (b, e, t) :: l1, [], _, _, _, _, h1, _, q => by
    have := q b
    cases e with
    | none => rw [atL_none, if_pos (Int.le_refl _)] at this; simp [atL] at this
    | some e => rw [atL_some, if_pos ⟨Int.le_refl _, h1.2.2.1⟩] at this; simp [atL] at this
  | (b, e, t) :: l1, (b', e', t') :: l2, lo1, lo2, t1, t2, h1, h2, q => by
    have hb1 : atL ((b, e, t) :: l1) b = some t := by
      cases e with
      | none => rw [atL_none, if_pos (Int.le_refl _)]
      | some e => rw [atL_some, if_pos ⟨Int.le_refl _, h1.2.2.1⟩]
    have hb2 : atL ((b', e', t') :: l2) b' = some t' := by
      cases e' with
      | none => rw [atL_none, if_pos (Int.le_refl _)]
      | some e' => rw [atL_some, if_pos ⟨Int.le_refl _, h2.2.2.1⟩]
    have p1 : Prp b ((b, e, t) :: l1) := by
      cases e with
      | none => exact ⟨Int.le_refl _, h1.2.2⟩
      | some e => exact ⟨Int.le_refl _, h1.2.2.1, h1.2.2.2.prp⟩
    have p2 : Prp b' ((b', e', t') :: l2) := by
      cases e' with
      | none => exact ⟨Int.le_refl _, h2.2.2⟩
      | some e' => exact ⟨Int.le_refl _, h2.2.2.1, h2.2.2.2.prp⟩
    have eb : b = b' := by
      rcases Int.lt_trichotomy b b' with c | c | c
      · have := atL_lo p2 c
        rw [← q, hb1] at this
        cases this
      · exact c
      · have := atL_lo p1 c
        rw [q, hb2] at this
        cases this
    subst eb
    have et : t = t' := by
      rw [q, hb2] at hb1
      exact (Option.some.inj hb1).symm
    subst et
    have nx : ∀ {x : Int} {l : List LRow}, Can x (some t) l → atL l x ≠ some t := by
      intro x l c
      match l, c with
      | [], _ => simp [atL]
      | (y, none, u) :: l, c =>
        rw [atL_none]
        by_cases hy : y ≤ x
        · rw [if_pos hy]
          have : y = x := Int.le_antisymm hy c.1
          intro z
          exact c.2.1 this z.symm
        · rw [if_neg hy, c.2.2]
          simp [atL]
      | (y, some z, u) :: l, c =>
        rw [atL_some]
        by_cases hy : y ≤ x ∧ x < z
        · rw [if_pos hy]
          have : y = x := Int.le_antisymm hy.1 c.1
          intro z
          exact c.2.1 this z.symm
        · rw [if_neg hy]
          have c1 := c.1
          have c2 := c.2.2.1
          rw [atL_lo c.2.2.2.prp (by omega)]
          simp
    cases e with
    | none =>
      have h1e : l1 = [] := h1.2.2
      subst h1e
      cases e' with
      | none =>
        have h2e : l2 = [] := h2.2.2
        rw [h2e]
      | some e' =>
        have c2 := h2.2.2.1
        have := q e'
        rw [atL_none, if_pos (by omega), atL_some, if_neg (by omega)] at this
        exact absurd this.symm (nx h2.2.2.2)
    | some e =>
      have c1 := h1.2.2.1
      cases e' with
      | none =>
        have := q e
        rw [atL_some, if_neg (by omega), atL_none, if_pos (by omega)] at this
        exact absurd this (nx h1.2.2.2)
      | some e' =>
        have c2 := h2.2.2.1
        have ee : e = e' := by
          rcases Int.lt_trichotomy e e' with c | c | c
          · have := q e
            rw [atL_some, if_neg (by omega), atL_some, if_pos (by omega)] at this
            exact absurd this (nx h1.2.2.2)
          · exact c
          · have := q e'
            rw [atL_some, if_pos (by omega), atL_some, if_neg (by omega)] at this
            exact absurd this.symm (nx h2.2.2.2)
        subst ee
        rw [Can.uniq h1.2.2.2 h2.2.2.2 fun m => ?_]
        by_cases hm : m < e
        · rw [atL_lo h1.2.2.2.prp hm, atL_lo h2.2.2.2.prp hm]
        · have := q m
          rw [atL_some, if_neg (by omega), atL_some, if_neg (by omega)] at this
          exact this
/-! ### neighbours joined -/
def joinStep (found : List LRow) (row : LRow) : List LRow := match found.getLast? with
  | some l => if l.2.1 = some row.1 ∧ l.2.2 = row.2.2 then found.dropLast ++ [(l.1, row.2)] else found ++ [row]
  | none => [row]
def joinR : LRow → List LRow → List LRow
  | c, [] => [c]
  | c, r :: l => if c.2.1 = some r.1 ∧ c.2.2 = r.2.2 then joinR (c.1, r.2) l else c :: joinR r l
def joinL : List LRow → List LRow
  | [] => []
  | r :: l => joinR r l
theorem joinStep_snoc (pre : List LRow) (c r : LRow) : joinStep (pre ++ [c]) r = if c.2.1 = some r.1 ∧ c.2.2 = r.2.2 then pre ++ [(c.1, r.2)] else pre ++ [c, r] := by
  unfold joinStep
  rw [List.getLast?_append]
  simp
theorem join_fold : ∀ (l : List LRow) (pre : List LRow) (c : LRow), l.foldl joinStep (pre ++ [c]) = pre ++ joinR c l
  | [], pre, c => by simp [joinR]
  | r :: l, pre, c => by
    rw [List.foldl_cons, joinStep_snoc, joinR]
    split
    · exact join_fold l pre (c.1, r.2)
    · rw [show pre ++ [c, r] = (pre ++ [c]) ++ [r] by simp, join_fold l (pre ++ [c]) r]
      simp
theorem join_eq (l : List LRow) : l.foldl joinStep [] = joinL l := by
  cases l with
  | nil => rfl
  | cons r l => exact join_fold l [] r
theorem joinR_can : ∀ (l : List LRow) (c : LRow) (lo : Int) (t0 : Option Tl), Prp lo (c :: l) → (c.1 = lo → t0 ≠ some c.2.2) → Can lo t0 (joinR c l)
  | [], (b, none, t), lo, t0, h, q => ⟨h.1, q, rfl⟩
  | [], (b, some e, t), lo, t0, h, q => ⟨h.1, q, h.2.1, True.intro⟩
  | r :: l, (b, none, t), lo, t0, h, q => by cases h.2
  | (b', e', t') :: l, (b, some e, t), lo, t0, h, q => by
    obtain ⟨h1, h2, h3⟩ := h
    rw [joinR]
    split
    · rename_i c
      simp only [Option.some.injEq] at c
      obtain ⟨rfl, rfl⟩ := c
      refine joinR_can l (b, e', t) lo t0 ?_ q
      cases e' with
      | none => exact ⟨h1, h3.2⟩
      | some e' => exact ⟨h1, by have := h3.2.1; omega, h3.2.2⟩
    · rename_i c
      refine ⟨h1, q, h2, joinR_can l (b', e', t') e (some t) h3 fun z => ?_⟩
      intro y
      simp only [Option.some.injEq] at y c
      exact c ⟨z.symm, y⟩
theorem joinR_at : ∀ (l : List LRow) (c : LRow) (lo m : Int), Prp lo (c :: l) → atL (joinR c l) m = atL (c :: l) m
  | [], c, lo, m, h => rfl
  | r :: l, (b, none, t), lo, m, h => by cases h.2
  | (b', e', t') :: l, (b, some e, t), lo, m, h => by
    obtain ⟨h1, h2, h3⟩ := h
    rw [joinR]
    split
    · rename_i c
      simp only [Option.some.injEq] at c
      obtain ⟨rfl, rfl⟩ := c
      have hp : Prp lo ((b, e', t) :: l) := by
        cases e' with
        | none => exact ⟨h1, h3.2⟩
        | some e' => exact ⟨h1, by have := h3.2.1; omega, h3.2.2⟩
      rw [joinR_at l (b, e', t) lo m hp, atL_some]
      cases e' with
      | none =>
        rw [atL_none, atL_none]
        by_cases x : b ≤ m
        · rw [if_pos x]
          by_cases y : m < e
          · rw [if_pos ⟨x, y⟩]
          · rw [if_neg (by omega), if_pos (by omega)]
        · rw [if_neg x, if_neg (by omega), if_neg (by omega)]
      | some e' =>
        have := h3.2.1
        rw [atL_some, atL_some]
        by_cases x : b ≤ m ∧ m < e'
        · rw [if_pos x]
          by_cases y : m < e
          · rw [if_pos ⟨x.1, y⟩]
          · rw [if_neg (by omega), if_pos (by omega)]
        · rw [if_neg x, if_neg (by omega), if_neg (by omega)]
    · rw [atL, atL, joinR_at l (b', e', t') e m h3]
theorem joinL_can {l : List LRow} {lo : Int} (h : Prp lo l) : Can lo none (joinL l) := by
  cases l with
  | nil => exact True.intro
  | cons c l => exact joinR_can l c lo none h fun _ => by simp
theorem joinL_at {l : List LRow} {lo : Int} (h : Prp lo l) (m : Int) : atL (joinL l) m = atL l m := by
  cases l with
  | nil => rfl
  | cons c l => exact joinR_at l c lo m h
theorem Can.free : ∀ {l : List LRow} {lo : Int} {t : Option Tl}, Can lo t l → Can lo none l
  | [], _, _, _ => True.intro
  | (b, none, t) :: l, lo, t0, h => ⟨h.1, fun _ => by simp, h.2.2⟩
  | (b, some e, t) :: l, lo, t0, h => ⟨h.1, fun _ => by simp, h.2.2⟩
theorem joinL_same {l : List LRow} {lo : Int} {t : Option Tl} (h : Can lo t l) : joinL l = l := (joinL_can h.prp).uniq h.free fun m => joinL_at h.prp m
end Tw

set_option Elab.async false
set_option linter.all false
set_option maxRecDepth 100000
set_option maxHeartbeats 4000000
namespace Tw
open PySem PySem.Spec PyProof.Rows L2
theorem atL_app : ∀ (l1 l2 : List LRow) (m : Int), atL (l1 ++ l2) m = match atL l1 m with
    | some t => some t
    | none => atL l2 m
  | [], _, _ => rfl
  | r :: l, l2, m => by
    rw [List.cons_append, atL, atL]
    split
    · rfl
    · exact atL_app l l2 m
theorem Prp.app : ∀ {l1 l2 : List LRow} {lo hi : Int}, Prp lo l1 → (∀ r ∈ l1, ∃ e, r.2.1 = some e ∧ e ≤ hi) → lo ≤ hi → Prp hi l2 → Prp lo (l1 ++ l2)
  | [], _, _, _, _, _, hl, h2 => h2.mono hl
  | (b, none, t) :: l, _, _, _, _, q, _, _ => by obtain ⟨e, h, _⟩ := q _ List.mem_cons_self; cases h
  | (b, some e, t) :: l, l2, lo, hi, h, q, _, h2 => by
    obtain ⟨e', he, hle⟩ := q _ List.mem_cons_self
    cases he
    exact ⟨h.1, h.2.1, Prp.app h.2.2 (fun r hr => q r (List.mem_cons_of_mem _ hr)) hle h2⟩
/-! ### cut -/
def cutRow (q : Strt) (r : LRow) : Option LRow := (common (rst r) q).map fun s => (s.1, s.2, r.2.2)
def cutL (l : List LRow) (b : Int) (e : Option Int) : List LRow := l.filterMap (cutRow (b, e))
theorem cutL_at : ∀ (l : List LRow) (b : Int) (e : Option Int) (m : Int), atL (cutL l b e) m = if inSt (b, e) m = true then atL l m else none
  | [], _, _, _ => by simp [cutL, atL]
  | r :: l, b, e, m => by
    have ih := cutL_at l b e m
    unfold cutL at ih ⊢
    have hc := inSt_common (a := rst r) (b := (b, e)) (m := m)
    rw [List.filterMap_cons, cutRow]
    cases h : common (rst r) (b, e) with
    | none =>
      rw [h] at hc
      simp only [Option.map_none]
      rw [ih]
      split
      · rename_i c
        rw [c, Bool.and_true] at hc
        rw [atL, hc]
        simp
      · rfl
    | some s =>
      rw [h] at hc
      simp only [Option.map_some]
      rw [atL, ih]
      simp only at hc
      show (if inSt (s.1, s.2) m = true then _ else _) = _
      rw [show (s.1, s.2) = s from rfl, ← hc]
      cases c1 : inSt (rst r) m <;> cases c2 : inSt (b, e) m <;> simp [atL, c1]
theorem common_some {a b s : Strt} (h : common a b = some s) : s.1 = max a.1 b.1 ∧ s.2 = earlierEnd a.2 b.2 ∧ ∀ e, s.2 = some e → s.1 < e := by
  unfold common at h
  split at h
  · rename_i e he
    split at h
    · cases h
    · cases h
      exact ⟨rfl, he.symm, fun e' z => by cases z; simp only; omega⟩
  · rename_i he
    cases h
    exact ⟨rfl, he.symm, fun e' z => by cases z⟩
theorem earlier_some {a b : Option Int} {e : Int} (h : earlierEnd a b = some e) : (∀ x, a = some x → e ≤ x) ∧ (∀ x, b = some x → e ≤ x) := by
  cases a <;> cases b <;> simp only [earlierEnd] at h <;> cases h
  · exact ⟨fun x z => (nomatch z), fun x z => by cases z; exact Int.le_refl _⟩
  · exact ⟨fun x z => by cases z; exact Int.le_refl _, fun x z => (nomatch z)⟩
  · exact ⟨fun x z => by cases z; omega, fun x z => by cases z; omega⟩
theorem earlier_none {a b : Option Int} (h : earlierEnd a b = none) : a = none ∧ b = none := by
  cases a <;> cases b <;> simp only [earlierEnd] at h <;> cases h
  exact ⟨rfl, rfl⟩
theorem cutL_prp {b : Int} {q : Option Int} : ∀ {l : List LRow} {lo : Int}, Prp lo l → Prp (max lo b) (cutL l b q)
  | [], _, _ => True.intro
  | (rb, re, t) :: l, lo, h => by
    unfold cutL
    rw [List.filterMap_cons, cutRow]
    have key : ∀ e', re = some e' → Prp (max e' b) (cutL l b q) := fun e' he => by subst he; exact cutL_prp h.2.2
    cases hc : common (rst (rb, re, t)) (b, q) with
    | none =>
      simp only [Option.map_none]
      cases re with
      | none =>
        have : l = [] := h.2
        subst this
        exact True.intro
      | some e' => exact (key e' rfl).mono (by have := h.1; have := h.2.1; omega)
    | some s =>
      obtain ⟨s1, s2, s3⟩ := common_some hc
      simp only [Option.map_some]
      obtain ⟨sb, se⟩ := s
      simp only [rst] at s1 s2 s3 ⊢
      have h1 := h.1
      refine ⟨by omega, ?_⟩
      cases se with
      | none =>
        obtain ⟨r1, r2⟩ := earlier_none s2.symm
        subst r1
        have : l = [] := h.2
        subst this
        rfl
      | some v =>
        refine ⟨s3 v rfl, ?_⟩
        cases re with
        | none =>
          have : l = [] := h.2
          subst this
          exact True.intro
        | some e' =>
          have := (earlier_some s2.symm).1 e' rfl
          exact (key e' rfl).mono (by omega)
theorem cutL_ends {l : List LRow} {b e : Int} : ∀ r ∈ cutL l b (some e), ∃ x, r.2.1 = some x ∧ x ≤ e := by
  intro r hr
  unfold cutL at hr
  obtain ⟨r0, _, h0⟩ := List.mem_filterMap.mp hr
  unfold cutRow at h0
  rw [Option.map_eq_some_iff] at h0
  obtain ⟨s, hs, rfl⟩ := h0
  obtain ⟨s1, s2, s3⟩ := common_some hs
  simp only at s2 ⊢
  cases h : s.2 with
  | none => rw [h] at s2; exact absurd (earlier_none s2.symm).2 (by simp)
  | some v => rw [h] at s2; exact ⟨v, rfl, (earlier_some s2.symm).2 e rfl⟩
theorem cutL_len (l : List LRow) (b : Int) (e : Option Int) : (cutL l b e).length ≤ l.length := List.length_filterMap_le _ _
/-! ### put -/
def tailCut (l : List LRow) : Option Int → List LRow
  | some e => cutL l e none
  | none => []
def oneRow (b : Int) (e : Option Int) : Option Tl → List LRow
  | some t => [(b, e, t)]
  | none => []
def headCut (l : List LRow) (b : Int) : List LRow := if 0 < b then cutL l 0 (some b) else []
def putRows (l : List LRow) (b : Int) (e : Option Int) (w : Option Tl) : List LRow := headCut l b ++ oneRow b e w ++ tailCut l e
def putL (l : List LRow) (b : Int) (e : Option Int) (w : Option Tl) : List LRow := joinL (putRows l b e w)
theorem putRows_prp {l : List LRow} {b : Int} {e : Option Int} {w : Option Tl} (h : Prp 0 l) (ok : okSt (b, e)) : Prp 0 (putRows l b e w) := by
  obtain ⟨lo, hi, en⟩ := ok
  simp only at lo hi en
  unfold putRows
  have h3' : ∀ x, e = some x → Prp x (tailCut l e) := by
    intro x hx
    subst hx
    exact (cutL_prp h).mono (by omega)
  have h3 : Prp b (tailCut l e) := by
    cases e with
    | none => exact True.intro
    | some e => exact (h3' e rfl).mono (by have := (en e rfl).1; omega)
  have h2 : Prp b (oneRow b e w ++ tailCut l e) := by
    cases w with
    | none => exact h3
    | some t =>
      cases e with
      | none => exact ⟨Int.le_refl _, rfl⟩
      | some x => exact ⟨Int.le_refl _, (en x rfl).1, h3' x rfl⟩
  rw [List.append_assoc]
  unfold headCut
  split
  · exact Prp.app ((cutL_prp h).mono (by omega)) cutL_ends lo h2
  · exact h2.mono (by omega)
theorem putRows_at {l : List LRow} {b : Int} {e : Option Int} {w : Option Tl} (h : Prp 0 l) (ok : okSt (b, e)) (m : Int) : atL (putRows l b e w) m = if inSt (b, e) m = true then w else atL l m := by
  obtain ⟨lo, hi, en⟩ := ok
  simp only at lo hi en
  have a1 : atL (headCut l b) m = if m < b then atL l m else none := by
    unfold headCut
    split
    · rw [cutL_at, inSt_some]
      by_cases c : m < 0
      · rw [atL_lo h c]
        simp
      · by_cases d : m < b
        · rw [if_pos (by simp; omega), if_pos d]
        · rw [if_neg (by simp; omega), if_neg d]
    · by_cases c : m < 0
      · rw [atL_lo h c]
        simp [atL]
      · rw [if_neg (by omega)]
        rfl
  have a2 : atL (oneRow b e w) m = if inSt (b, e) m = true then w else none := by
    cases w with
    | none => simp [atL, oneRow]
    | some t => simp only [atL, rst, oneRow]; rfl
  unfold putRows
  rw [atL_app, atL_app, a1, a2]
  by_cases c : m < b
  · rw [if_pos c]
    have : inSt (b, e) m = false := by simp [inSt]; omega
    rw [this]
    cases e with
    | none => cases atL l m <;> simp [tailCut, atL]
    | some e =>
      have := (en e rfl).1
      simp only [tailCut]
      rw [cutL_at, inSt_none]
      have : ¬ e ≤ m := by omega
      cases atL l m <;> simp [this]
  · rw [if_neg c]
    simp only
    cases e with
    | none =>
      have : inSt (b, none) m = true := by rw [inSt_none]; simp; omega
      rw [this]
      cases w <;> simp [tailCut, atL]
    | some e =>
      simp only [tailCut]
      rw [cutL_at, inSt_none]
      by_cases d : m < e
      · have : inSt (b, some e) m = true := by rw [inSt_some]; simp; omega
        rw [this]
        have : ¬ e ≤ m := by omega
        cases w <;> simp [this]
      · have : inSt (b, some e) m = false := by rw [inSt_some]; simp; omega
        rw [this]
        have : e ≤ m := by omega
        simp [this]
theorem putL_can {l : List LRow} {b : Int} {e : Option Int} {w : Option Tl} (h : Prp 0 l) (ok : okSt (b, e)) : Can 0 none (putL l b e w) := joinL_can (putRows_prp h ok)
theorem putL_at {l : List LRow} {b : Int} {e : Option Int} {w : Option Tl} (h : Prp 0 l) (ok : okSt (b, e)) (m : Int) : atL (putL l b e w) m = if inSt (b, e) m = true then w else atL l m := by
  rw [putL, joinL_at (putRows_prp h ok), putRows_at h ok]
theorem putRows_len (l : List LRow) (b : Int) (e : Option Int) (w : Option Tl) : (putRows l b e w).length ≤ 2 * l.length + 1 := by
  unfold putRows
  have h1 : (headCut l b).length ≤ l.length := by
    unfold headCut
    split
    · exact cutL_len l 0 (some b)
    · simp
  have h2 : (tailCut l e).length ≤ l.length := by
    cases e with
    | none => simp [tailCut]
    | some e => exact cutL_len l e none
  have h3 : (oneRow b e w).length ≤ 1 := by cases w <;> simp [oneRow]
  rw [List.length_append, List.length_append]
  omega
/-! ### the line that tellings make, by their begins and ends -/
def segs (f : Int → Option Tl) : List Int → List LRow
  | [] => []
  | x :: l => (match f x with
    | some t => [(x, l.head?, t)]
    | none => []) ++ segs f l
theorem segs_prp {f : Int → Option Tl} : ∀ {l : List Int} {lo : Int}, l.Pairwise (· < ·) → (∀ x ∈ l, lo ≤ x) → Prp lo (segs f l)
  | [], _, _, _ => True.intro
  | x :: l, lo, h, hl => by
    have hx := hl x List.mem_cons_self
    have h2 := (List.pairwise_cons.mp h).1
    have h3 := (List.pairwise_cons.mp h).2
    unfold segs
    cases hf : f x with
    | none => exact segs_prp h3 fun y hy => hl y (List.mem_cons_of_mem _ hy)
    | some t =>
      refine ⟨hx, ?_⟩
      cases l with
      | nil => rfl
      | cons y l =>
        refine ⟨h2 y List.mem_cons_self, segs_prp h3 fun z hz => ?_⟩
        rcases List.mem_cons.mp hz with rfl | hz
        · exact Int.le_refl _
        · exact Int.le_of_lt ((List.pairwise_cons.mp h3).1 z hz)
theorem segs_lo {f : Int → Option Tl} {l : List Int} {m : Int} (h : l.Pairwise (· < ·)) (hm : ∀ x ∈ l, m < x) : atL (segs f l) m = none := by
  refine atL_lo (lo := m + 1) (segs_prp h fun x hx => ?_) (by omega)
  have := hm x hx
  omega
theorem segs_at {f : Int → Option Tl} : ∀ {l : List Int} {m x : Int}, l.Pairwise (· < ·) → x ∈ l → x ≤ m → (∀ y ∈ l, x < y → m < y) → atL (segs f l) m = f x
  | [], _, _, _, hx, _, _ => by cases hx
  | y :: l, m, x, h, hx, hm, hn => by
    have h2 := (List.pairwise_cons.mp h).1
    have h3 := (List.pairwise_cons.mp h).2
    unfold segs
    rcases List.mem_cons.mp hx with rfl | hx
    · have hr : atL (segs f l) m = none := segs_lo h3 fun z hz => hn z (List.mem_cons_of_mem _ hz) (h2 z hz)
      cases hf : f x with
      | none => exact hr
      | some t =>
        rw [atL_app]
        cases l with
        | nil => simp only [List.head?_nil]; rw [atL_none, if_pos hm]
        | cons z l => simp only [List.head?_cons]; rw [atL_some, if_pos ⟨hm, hn z (by simp) (h2 z (by simp))⟩]
    · have ih := segs_at (f := f) h3 hx hm fun z hz => hn z (List.mem_cons_of_mem _ hz)
      cases hf : f y with
      | none => exact ih
      | some t =>
        rw [atL_app]
        cases l with
        | nil => cases hx
        | cons z l =>
          simp only [List.head?_cons]
          rw [atL_some, if_neg, atL]
          · exact ih
          · have : z ≤ x := by
              rcases List.mem_cons.mp hx with rfl | q
              · exact Int.le_refl _
              · exact Int.le_of_lt ((List.pairwise_cons.mp h3).1 x q)
            omega
theorem segs_len (f : Int → Option Tl) : ∀ l : List Int, (segs f l).length ≤ l.length
  | [] => Nat.le_refl _
  | x :: l => by
    have := segs_len f l
    unfold segs
    cases f x <;> simp <;> omega
theorem last_le : ∀ {l : List Int} {m : Int}, (∀ x ∈ l, m < x) ∨ ∃ x ∈ l, x ≤ m ∧ ∀ y ∈ l, x < y → m < y
  | [], m => .inl (by simp)
  | x :: l, m => by
    rcases last_le (l := l) (m := m) with h | ⟨y, hy, h1, h2⟩
    · by_cases c : m < x
      · exact .inl (by simpa [c] using h)
      · exact .inr ⟨x, List.mem_cons_self, by omega, fun y hy hxy => by
          rcases List.mem_cons.mp hy with rfl | hy
          · omega
          · exact h y hy⟩
    · by_cases c : m < x
      · exact .inr ⟨y, List.mem_cons_of_mem _ hy, h1, fun z hz hyz => by
          rcases List.mem_cons.mp hz with rfl | hz
          · exact c
          · exact h2 z hz hyz⟩
      · by_cases d : x ≤ y
        · exact .inr ⟨y, List.mem_cons_of_mem _ hy, h1, fun z hz hyz => by
            rcases List.mem_cons.mp hz with rfl | hz
            · omega
            · exact h2 z hz hyz⟩
        · exact .inr ⟨x, List.mem_cons_self, by omega, fun z hz hxz => by
            rcases List.mem_cons.mp hz with rfl | hz
            · omega
            · exact h2 z hz (by omega)⟩
/-- a law that changes at bounds alone -/
def Steps (l : List Int) (f : Int → Option Tl) : Prop := (∀ m, (∀ x ∈ l, m < x) → f m = none) ∧ ∀ x ∈ l, ∀ m, x ≤ m → (∀ y ∈ l, x < y → m < y) → f m = f x
theorem segs_all {f : Int → Option Tl} {l : List Int} (h : l.Pairwise (· < ·)) (s : Steps l f) (m : Int) : atL (segs f l) m = f m := by
  rcases last_le (l := l) (m := m) with q | ⟨x, hx, h1, h2⟩
  · rw [segs_lo h q, s.1 m q]
  · rw [segs_at h hx h1 h2, s.2 x hx m h1 h2]
def lineL (f : Int → Option Tl) (l : List Int) : List LRow := joinL (segs f l)
theorem lineL_can {f : Int → Option Tl} {l : List Int} {lo : Int} (h : l.Pairwise (· < ·)) (hl : ∀ x ∈ l, lo ≤ x) : Can lo none (lineL f l) := joinL_can (segs_prp h hl)
theorem lineL_at {f : Int → Option Tl} {l : List Int} {lo : Int} (h : l.Pairwise (· < ·)) (hl : ∀ x ∈ l, lo ≤ x) (s : Steps l f) (m : Int) : atL (lineL f l) m = f m := by rw [lineL, joinL_at (segs_prp h hl), segs_all h s]
theorem joinR_len : ∀ (l : List LRow) (c : LRow), (joinR c l).length ≤ l.length + 1
  | [], c => Nat.le_refl _
  | r :: l, c => by
    rw [joinR]
    split
    · have := joinR_len l (c.1, r.2); simp only [List.length_cons]; omega
    · have := joinR_len l r; simp only [List.length_cons]; omega
theorem joinL_len (l : List LRow) : (joinL l).length ≤ l.length := by
  cases l with
  | nil => exact Nat.le_refl _
  | cons r l => exact joinR_len l r
theorem lineL_len (f : Int → Option Tl) (l : List Int) : (lineL f l).length ≤ l.length := Nat.le_trans (joinL_len _) (segs_len f l)
/-! ### rows as data -/
def Sing (l : List LRow) : Prop := ∀ r ∈ l, ∃ o, r.2.2 = [o]
def worthOf : Option Tl → Option Str
  | some [o] => o
  | _ => none
def wAt (l : List LRow) (m : Int) : Option Str := worthOf (atL l m)
def tl (w : Option Str) : Option Tl := w.map fun z => [some z]
theorem worthOf_tl (w : Option Str) : worthOf (tl w) = w := by cases w <;> rfl
theorem bels_oS (n : Nat) : ∀ t : Tl, D.bels n (t.map oS) = true
  | [] => by simp [D.bels]
  | none :: t => by simp [D.bels, D.bel, oS, bels_oS n t]
  | some z :: t => by simp [D.bels, D.bel, oS, bels_oS n t]
theorem oD_bel (n : Nat) (o : Option Int) : (oD o).bel n = true := by cases o <;> rfl
theorem oS_bel (n : Nat) (o : Option Str) : (oS o).bel n = true := by cases o <;> rfl
theorem rowD_bel (n : Nat) (r : LRow) : (rowD r).bel n = true := by simp [rowD, D.bel, D.bels, bels_oS, oD_bel]
theorem bels_rows (n : Nat) : ∀ l : List LRow, D.bels n (l.map rowD) = true
  | [] => by simp [D.bels]
  | r :: l => by simp [D.bels, rowD_bel, bels_rows n l]
theorem lays_oS (n : Nat) : ∀ t : Tl, D.lays n (t.map oS) = true
  | [] => by simp [D.lays]
  | o :: t => by simp [D.lays, lay_oS, lays_oS n t]
theorem rowD_lay (n : Nat) (r : LRow) : (rowD r).lay (n + 1) = true := by simp [rowD, D.lay, D.lays, lays_oS, lay_oD]
theorem lays_rows (n : Nat) : ∀ l : List LRow, D.lays (n + 1) (l.map rowD) = true
  | [] => by simp [D.lays]
  | r :: l => by simp [D.lays, rowD_lay, lays_rows n l]
theorem eqs_oS : ∀ t u : Tl, D.eqs (t.map oS) (u.map oS) = decide (t = u)
  | [], [] => by simp [D.eqs]
  | [], o :: u => by simp [D.eqs]
  | o :: t, [] => by simp [D.eqs]
  | o :: t, p :: u => by
    rw [List.map_cons, List.map_cons, deqs_cc, eq_oS, eqs_oS t u, Bool.eq_iff_iff]
    simp
theorem eq_rowD (r q : LRow) : D.eq (rowD r) (rowD q) = decide (r = q) := by
  obtain ⟨b, e, t⟩ := r
  obtain ⟨c, f, u⟩ := q
  simp only [rowD, de_tup_tup, deqs_cc, de_int_int, eq_oD, eqs_oS]
  rw [Bool.eq_iff_iff]
  simp
theorem eqs_rows : ∀ l m : List LRow, D.eqs (l.map rowD) (m.map rowD) = decide (l = m)
  | [], [] => by simp [D.eqs]
  | [], o :: u => by simp [D.eqs]
  | o :: t, [] => by simp [D.eqs]
  | o :: t, p :: u => by
    rw [List.map_cons, List.map_cons, deqs_cc, eq_rowD, eqs_rows t u, Bool.eq_iff_iff]
    simp
theorem rd2 {W : Wd} {d : D} {l : List D} (h : rdM W d = some l) : d = .lst l ∨ ∃ n, d = .hnd n ∧ W[n]? = some (.lst l) := by
  cases d with
  | lst l' => simp only [rdM, rdL, Option.some.injEq] at h; subst h; exact .inl rfl
  | hnd n =>
    simp only [rdM, rdL] at h
    split at h
    · rename_i l' e
      cases h
      exact .inr ⟨n, rfl, e⟩
    · cases h
  | _ => simp only [rdM, rdL] at h <;> cases h
theorem rdM_lst (W : Wd) (l : List D) : rdM W (.lst l) = some l := rfl
theorem rdM_hnd {W : Wd} {n : Nat} {l : List D} (h : W[n]? = some (.lst l)) : rdM W (.hnd n) = some l := by simp [rdM, rdL, h]
theorem rdS_hnd {W : Wd} {n : Nat} {l : List D} (h : W[n]? = some (.lst l)) : rdS W (.hnd n) = some l := by simp [rdS, rdL, h]
theorem get_app {W g : Wd} {n : Nat} {o : O} (h : W[n]? = some o) : (W ++ g)[n]? = some o := by
  rw [List.getElem?_append_left (List.getElem?_eq_some_iff.mp h).1]
  exact h
theorem get_own (W g : Wd) (o : O) : (W ++ o :: g)[W.length]? = some o := by
  rw [List.getElem?_append_right (Nat.le_refl _)]
  simp
theorem set_own (W g : Wd) (o u : O) : (W ++ o :: g).set W.length u = W ++ u :: g := by simp
theorem rdM_rdS {W : Wd} {d : D} {l : List D} (h : rdM W d = some l) : rdS W d = some l := by
  rcases rd2 h with rfl | ⟨n, rfl, hn⟩
  · rfl
  · exact rdS_hnd hn
theorem bIter_rd {S : AS} {d : D} {l : List D} {P : Items → AS → Prop} {X : XA} (h : rdM S.W d = some l) (q : P (l, fun W => rdS W d = some l) S) : bIter d S P X := by
  rcases rd2 h with rfl | ⟨n, rfl, hn⟩
  · exact q
  · simp only [bIter, rdS_hnd hn]
    exact q
theorem bRev_rd {S : AS} {d : D} {l : List D} {P : Items → AS → Prop} {X : XA} (h : rdM S.W d = some l) (q : P (l.reverse, fun W => rdL W d = some l) S) : bRev [d] S P X := by
  simp only [bRev, rdM_rdL h]
  exact q
theorem bIter_lst (l : List D) : bIter (.lst l) = fun S P _ => P (l, fun W => rdS W (.lst l) = some l) S := rfl
theorem bIter_sq (l : List D) : bIter (.sq l) = fun S P _ => P (l, fun W => rdS W (.sq l) = some l) S := rfl
theorem bIter_tup (l : List D) : bIter (.tup l) = fun S P _ => P (l, fun W => rdS W (.tup l) = some l) S := rfl
theorem bIter_str (z : Str) : bIter (.str z) = fun S P _ => P (z.cps.toList.map fun c => .str ⟨#[c]⟩, fun _ => True) S := rfl
theorem bIter_hnd (n : Nat) : bIter (.hnd n) = fun S P _ => (match rdS S.W (.hnd n) with
    | some l => P (l, fun W => rdS W (.hnd n) = some l) S
    | none => False) := rfl
theorem rowD_eq (b : Int) (e : Option Int) (t : Tl) : rowD (b, e, t) = .tup (.int b :: oD e :: t.map oS) := rfl
theorem atL_skip : ∀ {pre : List LRow} {l : List LRow} {m : Int}, (∀ r ∈ pre, inSt (rst r) m = false) → atL (pre ++ l) m = atL l m
  | [], _, _, _ => rfl
  | r :: pre, l, m, h => by
    rw [List.cons_append, atL, h r List.mem_cons_self]
    exact atL_skip fun q hq => h q (List.mem_cons_of_mem _ hq)
theorem ixN_last (n : Nat) : ixN (n + 1) (-1) = some n := by
  unfold ixN
  rw [if_neg (by omega), if_pos (by omega)]
  congr 1
  omega
theorem atI_snoc {α : Type} (l : List α) (a : α) : atI (l ++ [a]) (-1) = some a := by
  unfold atI
  rw [List.length_append, List.length_singleton, ixN_last]
  simp
theorem set_last {α : Type} (l : List α) (a b : α) : (l ++ [a]).set l.length b = l ++ [b] := by simp
theorem eqs_snoc (l : List D) (a : D) : D.eqs (l ++ [a]) [] = false := by cases l <;> simp [D.eqs]
theorem sl2 (n : Nat) : (HT.sIx (n + 1 + 1) 0 (some 2) = 0) = False := eq_false (by
  have := HT.sIx_nat (n + 1 + 1) 0 2
  have e : ((2 : Nat) : Int) = 2 := rfl
  rw [e] at this
  omega)
theorem sl1 (n : Nat) : (HT.sIx (n + 1) 0 (some 1) = 0) = False := eq_false (by
  have := HT.sIx_nat (n + 1) 0 1
  have e : ((1 : Nat) : Int) = 1 := rfl
  rw [e] at this
  omega)
theorem sl2t (n : Nat) : (HT.sIx (n + 1 + 1 + 1) (n + 1 + 1 + 1) (some 2) = n + 1 + 1 + 1) = False := eq_false (by
  have := HT.sIx_nat (n + 1 + 1 + 1) (n + 1 + 1 + 1) 2
  have e : ((2 : Nat) : Int) = 2 := rfl
  rw [e] at this
  omega)
theorem cut1f (l : List D) : cutD l (some 1) none = l.drop 1 := cutD_from l 1 1 rfl
theorem cut2f (l : List D) : cutD l (some 2) none = l.drop 2 := cutD_from l 2 2 rfl
theorem cut3f (l : List D) : cutD l (some 3) none = l.drop 3 := cutD_from l 3 3 rfl
theorem cut2t (l : List D) : cutD l none (some 2) = l.take 2 := cutD_to l 2 2 rfl
theorem cut4t (l : List D) : cutD l none (some 4) = l.take 4 := cutD_to l 4 4 rfl
theorem snoc_cases {α : Type} (l : List α) : l = [] ∨ ∃ p a, l = p ++ [a] := by
  rcases List.eq_nil_or_concat l with h | ⟨p, a, h⟩
  · exact .inl h
  · exact .inr ⟨p, a, by simpa using h⟩
theorem lay_lst (n : Nat) (l : List D) : D.lay (n + 1) (.lst l) = D.lays n l := by simp only [D.lay]
theorem eqs_oSc (ct t : Tl) (o : Option Str) : D.eqs (ct.map oS) (oS o :: t.map oS) = decide (ct = o :: t) := by rw [← List.map_cons, eqs_oS]
theorem eq_oDi (o : Option Int) (i : Int) : D.eq (oD o) (.int i) = decide (o = some i) := by
  rw [← oD_some, eq_oD, Bool.eq_iff_iff]
  simp
theorem eq_ioD (o : Option Int) (i : Int) : D.eq (.int i) (oD o) = decide (some i = o) := by
  rw [← oD_some, eq_oD, Bool.eq_iff_iff]
  simp
theorem eq_oSs (o : Option Str) (z : Str) : D.eq (oS o) (.str z) = decide (o = some z) := by
  rw [← oS_some, eq_oS, Bool.eq_iff_iff]
  simp
theorem eq_soS (o : Option Str) (z : Str) : D.eq (.str z) (oS o) = decide (some z = o) := by
  rw [← oS_some, eq_oS, Bool.eq_iff_iff]
  simp
def addK {α : Type} [DecidableEq α] (ks : List α) (k : α) : List α := if k ∈ ks then ks else ks ++ [k]
theorem addK_mem {α : Type} [DecidableEq α] {ks : List α} {k x : α} : x ∈ addK ks k ↔ x ∈ ks ∨ x = k := by
  unfold addK
  split
  · rename_i h
    constructor
    · exact .inl
    · rintro (h' | rfl)
      · exact h'
      · exact h
  · simp
theorem addK_nodup {α : Type} [DecidableEq α] {ks : List α} {k : α} (h : ks.Nodup) : (addK ks k).Nodup := by
  unfold addK
  split
  · exact h
  · rename_i c
    rw [List.nodup_append]
    exact ⟨h, by simp, fun a ha b hb => by simp at hb; subst hb; exact fun e => c (e ▸ ha)⟩
theorem addK_len {α : Type} [DecidableEq α] (ks : List α) (k : α) : (addK ks k).length ≤ ks.length + 1 := by
  unfold addK
  split
  · omega
  · simp
theorem putD_ints (ks : List Int) (vs : List D) (b : Int) (d : D) : (putD (ks.map Sum.inl) vs (Sum.inl b) d).1 = (addK ks b).map Sum.inl := by
  unfold putD addK
  have : ((ks.map Sum.inl : List Key).any fun k0 => decide (k0 = Sum.inl b)) = decide (b ∈ ks) := by
    rw [Bool.eq_iff_iff]
    simp
  rw [this]
  by_cases c : b ∈ ks
  · simp [c]
  · simp [c]
theorem sorted_lt {ys ks : List Int} (hp : ys.Perm ks) (hs : ys.Pairwise (· ≤ ·)) (hn : ks.Nodup) : ys.Pairwise (· < ·) := by
  have hn' : ys.Nodup := hp.nodup_iff.mpr hn
  exact (hs.and hn').imp fun ⟨a, b⟩ => by omega
theorem Sing.ne {l : List LRow} (h : Sing l) : (∀ r ∈ l, r.2.2 ≠ []) ∧ ∀ r ∈ l, r.2.2.length ≤ 1000 := ⟨fun r hr => by obtain ⟨o, e⟩ := h r hr; rw [e]; simp, fun r hr => by obtain ⟨o, e⟩ := h r hr; rw [e]; simp⟩
theorem Sing.cut {l : List LRow} (h : Sing l) (b : Int) (e : Option Int) : Sing (cutL l b e) := by
  intro r hr
  unfold cutL at hr
  obtain ⟨r0, h1, h0⟩ := List.mem_filterMap.mp hr
  unfold cutRow at h0
  rw [Option.map_eq_some_iff] at h0
  obtain ⟨s, hs, rfl⟩ := h0
  exact h r0 h1
theorem Sing.app {l m : List LRow} (h : Sing l) (k : Sing m) : Sing (l ++ m) := fun r hr => by
  rcases List.mem_append.mp hr with q | q
  · exact h r q
  · exact k r q
theorem Sing.one (b : Int) (e : Option Int) (w : Option Str) : Sing [(b, e, [w])] := fun r hr => by simp at hr; subst hr; exact ⟨w, rfl⟩
theorem Sing.nil : Sing [] := fun r hr => by cases hr
theorem range_at {n k : Nat} {pre post : List Nat} (h : List.range n = pre ++ k :: post) : k = pre.length ∧ pre.length < n := by
  have h1 : (List.range n)[pre.length]? = some k := by rw [h, List.getElem?_append_right (Nat.le_refl _)]; simp
  have h2 : pre.length < n := by
    have := congrArg List.length h
    simp at this
    omega
  rw [List.getElem?_range h2] at h1
  exact ⟨(Option.some.inj h1).symm, h2⟩
theorem segs_mem {f : Int → Option Tl} : ∀ {l : List Int} {r : LRow}, r ∈ segs f l → r.1 ∈ l ∧ (∀ e, r.2.1 = some e → e ∈ l) ∧ f r.1 = some r.2.2
  | [], _, h => by cases h
  | x :: l, r, h => by
    unfold segs at h
    rcases List.mem_append.mp h with h | h
    · cases hf : f x with
      | none => rw [hf] at h; cases h
      | some t =>
        rw [hf] at h
        simp at h
        subst h
        refine ⟨List.mem_cons_self, fun e he => List.mem_cons_of_mem _ ?_, hf⟩
        exact List.mem_of_mem_head? he
    · obtain ⟨a, b, c⟩ := segs_mem h
      exact ⟨List.mem_cons_of_mem _ a, fun e he => List.mem_cons_of_mem _ (b e he), c⟩
theorem joinR_mem : ∀ {l : List LRow} {c r : LRow}, r ∈ joinR c l → (∃ q ∈ c :: l, r.1 = q.1 ∧ r.2.2 = q.2.2) ∧ ∃ q ∈ c :: l, r.2.1 = q.2.1
  | [], c, r, h => by
    simp [joinR] at h
    subst h
    exact ⟨⟨r, by simp, rfl, rfl⟩, r, by simp, rfl⟩
  | a :: l, c, r, h => by
    rw [joinR] at h
    split at h
    · rename_i e
      obtain ⟨⟨q1, m1, e1, e2⟩, q2, m2, e3⟩ := joinR_mem h
      constructor
      · rcases List.mem_cons.mp m1 with rfl | m1
        · exact ⟨c, by simp, e1, e2.trans e.2.symm⟩
        · exact ⟨q1, by simp [m1], e1, e2⟩
      · rcases List.mem_cons.mp m2 with rfl | m2
        · exact ⟨a, by simp, e3⟩
        · exact ⟨q2, by simp [m2], e3⟩
    · rcases List.mem_cons.mp h with rfl | h
      · exact ⟨⟨r, by simp, rfl, rfl⟩, r, by simp, rfl⟩
      · obtain ⟨⟨q1, m1, e1, e2⟩, q2, m2, e3⟩ := joinR_mem h
        exact ⟨⟨q1, List.mem_cons_of_mem _ m1, e1, e2⟩, q2, List.mem_cons_of_mem _ m2, e3⟩
theorem joinL_mem {l : List LRow} {r : LRow} (h : r ∈ joinL l) : (∃ q ∈ l, r.1 = q.1 ∧ r.2.2 = q.2.2) ∧ ∃ q ∈ l, r.2.1 = q.2.1 := by
  cases l with
  | nil => cases h
  | cons c l => exact joinR_mem h
theorem lineL_mem {f : Int → Option Tl} {l : List Int} {r : LRow} (h : r ∈ lineL f l) : r.1 ∈ l ∧ (∀ e, r.2.1 = some e → e ∈ l) ∧ f r.1 = some r.2.2 := by
  obtain ⟨⟨q1, m1, e1, e2⟩, q2, m2, e3⟩ := joinL_mem h
  obtain ⟨a, _, c⟩ := segs_mem m1
  obtain ⟨_, b, _⟩ := segs_mem m2
  rw [e1, e2, e3]
  exact ⟨a, b, c⟩
theorem Can.lt : ∀ {l : List LRow} {lo : Int} {t : Option Tl} {r : LRow}, Can lo t l → r ∈ l → lo ≤ r.1 ∧ ∀ e, r.2.1 = some e → r.1 < e
  | [], _, _, _, _, h => by cases h
  | (b, none, t) :: l, lo, t0, r, c, h => by
    have : l = [] := c.2.2
    subst this
    simp at h
    subst h
    exact ⟨c.1, fun e z => nomatch z⟩
  | (b, some e, t) :: l, lo, t0, r, c, h => by
    rcases List.mem_cons.mp h with rfl | h
    · exact ⟨c.1, fun e z => by cases z; exact c.2.2.1⟩
    · have := Can.lt c.2.2.2 h
      have h1 := c.1
      have h2 := c.2.2.1
      exact ⟨by omega, this.2⟩
theorem atL_same {l : List LRow} {m x : Int} (h : ∀ r ∈ l, inSt (rst r) m = inSt (rst r) x) : atL l m = atL l x := by
  induction l with
  | nil => rfl
  | cons r l ih => rw [atL, atL, h r List.mem_cons_self, ih fun q hq => h q (List.mem_cons_of_mem _ hq)]
theorem atL_out {l : List LRow} {m : Int} (h : ∀ r ∈ l, inSt (rst r) m = false) : atL l m = none := by
  have := atL_skip (l := []) h
  rwa [List.append_nil] at this
theorem steps_of {l : List LRow} {ys : List Int} {g : Option Tl → Option Tl} (g0 : g none = none) (h : ∀ r ∈ l, r.1 ∈ ys ∧ ∀ e, r.2.1 = some e → e ∈ ys) : Steps ys (fun m => g (atL l m)) := by
  constructor
  · intro m hm
    show g (atL l m) = none
    rw [atL_out fun r hr => ?_, g0]
    have := hm _ (h r hr).1
    obtain ⟨b, e, t⟩ := r
    simp only at this
    cases e with
    | none => rw [rst, inSt_none]; simp; omega
    | some e => rw [rst, inSt_some]; simp; omega
  · intro x hx m hxm hn
    show g (atL l m) = g (atL l x)
    rw [atL_same fun r hr => ?_]
    obtain ⟨h1, h2⟩ := h r hr
    obtain ⟨b, e, t⟩ := r
    simp only [rst] at h1 h2 ⊢
    have b1 : b ≤ m ↔ b ≤ x := ⟨fun q => by
      by_cases c : b ≤ x
      · exact c
      · have := hn b h1 (by omega)
        omega, fun q => by omega⟩
    cases e with
    | none => rw [inSt_none, inSt_none]; simp [b1]
    | some e =>
      have e1 : m < e ↔ x < e := ⟨fun q => by omega, fun q => hn e (h2 e rfl) q⟩
      rw [inSt_some, inSt_some]
      simp [b1, e1]
theorem joinStep_len (found : List LRow) (r : LRow) : (joinStep found r).length ≤ found.length + 1 := by
  rcases snoc_cases found with rfl | ⟨p, c, rfl⟩
  · simp [joinStep]
  · rw [joinStep_snoc]
    split <;> simp
theorem joinStep_sing {found : List LRow} {r : LRow} (h : Sing found) (hr : ∃ o, r.2.2 = [o]) : Sing (joinStep found r) := by
  rcases snoc_cases found with rfl | ⟨p, c, rfl⟩
  · intro q hq
    simp [joinStep] at hq
    subst hq
    exact hr
  · rw [joinStep_snoc]
    intro q hq
    split at hq
    · rcases List.mem_append.mp hq with m | m
      · exact h q (by simp [m])
      · simp at m; subst m; exact hr
    · simp only [List.mem_append, List.mem_cons, List.not_mem_nil, or_false] at hq
      rcases hq with m | rfl | rfl
      · exact h q (by simp [m])
      · exact h q (by simp)
      · exact hr
theorem bound_next {ys : List Int} {k : Nat} (h : k < ys.length) : atI (ys.map D.int ++ [D.non]) ((k : Int) + 1) = some (oD ys[k + 1]?) := by
  rw [show ((k : Int) + 1) = ((k + 1 : Nat) : Int) by omega, atI_nat0]
  by_cases c : k + 1 < ys.length
  · rw [List.getElem?_append_left (by simpa using c), List.getElem?_map, List.getElem?_eq_getElem c]
    rfl
  · have e : k + 1 = ys.length := by omega
    rw [e, List.getElem?_eq_none (Nat.le_refl ys.length), List.getElem?_append_right (by simp)]
    simp [oD]
theorem lays_row1 (p : List LRow) (b : Int) (e : Option Int) (o : Option Str) (n : Nat) : D.lays (n + 2) (p.map rowD ++ [D.tup [D.int b, oD e, oS o]]) = true := by
  have := lays_rows (n + 1) (p ++ [(b, e, [o])])
  rw [List.map_append, List.map_singleton, rowD_eq] at this
  exact this
theorem atI_nil {α : Type} (i : Int) : atI ([] : List α) i = none := by
  unfold atI
  cases ixN ([] : List α).length i <;> simp
theorem ixN_nil (i : Int) : ixN 0 i = none := by
  unfold ixN
  split
  · rw [if_neg (by omega)]
  · rw [if_neg (by omega)]
/-! ### readings by what stands there -/
theorem dIx_str (z : Str) (i : Int) : dIx (.str z) (.int i) = fun S P _ => (match atI z.cps.toList i with
    | some c => z.length ≤ sizeLine ∧ P (.str ⟨#[c]⟩) S
    | none => False) := rfl
theorem dIx_lst (l : List D) (i : Int) : dIx (.lst l) (.int i) = fun S P _ => (match atI l i with
    | some d => P d S
    | none => False) := rfl
theorem dIx_sq (l : List D) (i : Int) : dIx (.sq l) (.int i) = fun S P _ => (match atI l i with
    | some d => P d S
    | none => False) := rfl
theorem dIx_tup (l : List D) (i : Int) : dIx (.tup l) (.int i) = fun S P _ => (match atI l i with
    | some d => P d S
    | none => False) := rfl
theorem dIx_hndi (n : Nat) (i : Int) : dIx (.hnd n) (.int i) = fun S P _ => (match S.W[n]? with
    | some (.lst l) => (match atI l i with
      | some d => P d S
      | none => False)
    | some (.dct ks l) => (match valD ks l (.inl i) with
      | some d => P d S
      | none => False)
    | some (.lck _ kvs l) => (match valD (kvs.map (·.1)) l (.inl i) with
      | some d => P d S
      | none => False)
    | _ => False) := by
  funext S P X
  simp only [dIx, rdD, rdS, rdL, toKey, ixL]
  cases S.W[n]? with
  | none => rfl
  | some o => cases o <;> rfl
theorem dIx_hnds (n : Nat) (i : Str) : dIx (.hnd n) (.str i) = fun S P _ => (match S.W[n]? with
    | some (.dct ks l) => (match valD ks l (.inr i) with
      | some d => P d S
      | none => False)
    | some (.lck _ kvs l) => (match valD (kvs.map (·.1)) l (.inr i) with
      | some d => P d S
      | none => False)
    | _ => False) := by
  funext S P X
  simp only [dIx, rdD, rdS, rdL, toKey, ixL]
  cases S.W[n]? with
  | none => rfl
  | some o => cases o <;> rfl
theorem dIx_dcti (ks : List Key) (l : List D) (i : Int) : dIx (.dct ks l) (.int i) = fun S P _ => (match valD ks l (.inl i) with
    | some d => P d S
    | none => False) := rfl
theorem dIx_dcts (ks : List Key) (l : List D) (i : Str) : dIx (.dct ks l) (.str i) = fun S P _ => (match valD ks l (.inr i) with
    | some d => P d S
    | none => False) := rfl
theorem dAdd_int (h : Bool) (i j : Int) : dAdd h (.int i) (.int j) = fun S P _ => P (.int (i + j)) S := rfl
theorem dAdd_str (h : Bool) (x y : Str) : dAdd h (.str x) (.str y) = fun S P _ => x.length + y.length ≤ sizeLine ∧ P (.str (x ++ y)) S := rfl
theorem dAdd_tup (h : Bool) (l m : List D) : dAdd h (.tup l) (.tup m) = fun S P _ => l ≠ [] ∧ l.length + m.length ≤ sizeLine ∧ P (.tup (l ++ m)) S := rfl
theorem dAdd_ll (h : Bool) (l m : List D) : dAdd h (.lst l) (.lst m) = fun S P X => l.length + m.length ≤ sizeLine ∧ newL h (l ++ m) S P X := rfl
theorem dAdd_lh (h : Bool) (l : List D) (n : Nat) : dAdd h (.lst l) (.hnd n) = fun S P X => (match S.W[n]? with
    | some (.lst m) => l.length + m.length ≤ sizeLine ∧ newL h (l ++ m) S P X
    | _ => False) := by
  funext S P X
  simp only [dAdd, rdM, rdL]
  cases S.W[n]? with
  | none => rfl
  | some o => cases o <;> rfl
theorem dAdd_hl (h : Bool) (n : Nat) (m : List D) : dAdd h (.hnd n) (.lst m) = fun S P X => (match S.W[n]? with
    | some (.lst l) => l.length + m.length ≤ sizeLine ∧ newL h (l ++ m) S P X
    | _ => False) := by
  funext S P X
  simp only [dAdd, rdM, rdL]
  cases S.W[n]? with
  | none => rfl
  | some o => cases o <;> rfl
theorem dAdd_hh (h : Bool) (n k : Nat) : dAdd h (.hnd n) (.hnd k) = fun S P X => (match S.W[n]?, S.W[k]? with
    | some (.lst l), some (.lst m) => l.length + m.length ≤ sizeLine ∧ newL h (l ++ m) S P X
    | _, _ => False) := by
  funext S P X
  simp only [dAdd, rdM, rdL]
  cases S.W[n]? with
  | none => rfl
  | some o =>
    cases o with
    | lst l =>
      cases S.W[k]? with
      | none => rfl
      | some o => cases o <;> rfl
    | _ => rfl
theorem dSl_str (h : Bool) (z : Str) (lo hi : Option Int) : dSl h (.str z) lo hi = fun S P _ => z.length ≤ sizeLine ∧ P (.str (cutS z lo hi)) S := rfl
theorem dSl_tup (h : Bool) (l : List D) (lo hi : Option Int) : dSl h (.tup l) lo hi = fun S P _ => ¬ (HT.sIx l.length 0 lo = 0 ∧ HT.sIx l.length l.length hi = l.length) ∧ P (.tup (cutD l lo hi)) S := rfl
theorem dSl_lst (h : Bool) (l : List D) (lo hi : Option Int) : dSl h (.lst l) lo hi = newL h (cutD l lo hi) := rfl
theorem dSl_sq (h : Bool) (l : List D) (lo hi : Option Int) : dSl h (.sq l) lo hi = newL h (cutD l lo hi) := rfl
theorem dSl_hnd (h : Bool) (n : Nat) (lo hi : Option Int) : dSl h (.hnd n) lo hi = fun S P X => (match S.W[n]? with
    | some (.lst l) => newL h (cutD l lo hi) S P X
    | _ => False) := by
  funext S P X
  simp only [dSl, rdL]
  cases S.W[n]? with
  | none => rfl
  | some o => cases o <;> rfl
theorem dIn_str (neg : Bool) (x z : Str) : dIn neg (.str x) (.str z) = fun S P _ => (match x.cps.toList with
    | [c] => P (.bl (negb neg (decide (c ∈ z.cps.toList)))) S
    | _ => False) := rfl
theorem dIn_lst (neg : Bool) (a : D) (l : List D) : dIn neg a (.lst l) = fun S P _ => (vw S.W a).lay 60 = true ∧ D.lays 60 l = true ∧ P (.bl (negb neg (l.any fun z => z.eq (vw S.W a)))) S := rfl
theorem dIn_sq (neg : Bool) (a : D) (l : List D) : dIn neg a (.sq l) = fun S P _ => (vw S.W a).lay 60 = true ∧ D.lays 60 l = true ∧ P (.bl (negb neg (l.any fun z => z.eq (vw S.W a)))) S := rfl
theorem dIn_tup (neg : Bool) (a : D) (l : List D) : dIn neg a (.tup l) = fun S P _ => (vw S.W a).lay 60 = true ∧ D.lays 60 l = true ∧ P (.bl (negb neg (l.any fun z => z.eq (vw S.W a)))) S := rfl
theorem dIn_dct (neg : Bool) (a : D) (ks : List Key) (l : List D) : dIn neg a (.dct ks l) = fun S P _ => (match toKey a with
    | some k => P (.bl (negb neg (valD ks l k).isSome)) S
    | none => False) := rfl
theorem dIn_hnd (neg : Bool) (a : D) (n : Nat) : dIn neg a (.hnd n) = fun S P _ => (match S.W[n]? with
    | some (.lst l) => (vw S.W a).lay 60 = true ∧ D.lays 60 l = true ∧ P (.bl (negb neg (l.any fun z => z.eq (vw S.W a)))) S
    | some (.dct ks l) => (match toKey a with
      | some k => P (.bl (negb neg (valD ks l k).isSome)) S
      | none => False)
    | some (.lck _ kvs l) => (match toKey a with
      | some k => P (.bl (negb neg (valD (kvs.map (·.1)) l k).isSome)) S
      | none => False)
    | _ => False) := by
  funext S P X
  simp only [dIn, rdD, rdS, rdL]
  cases S.W[n]? with
  | none => rfl
  | some o => cases o <;> rfl
theorem bLen_str (z : Str) : bLen [.str z] = fun S P _ => z.length ≤ sizeLine ∧ P (.int z.length) S := rfl
theorem bLen_lst (l : List D) : bLen [.lst l] = fun S P _ => P (.int l.length) S := rfl
theorem bLen_sq (l : List D) : bLen [.sq l] = fun S P _ => P (.int l.length) S := rfl
theorem bLen_tup (l : List D) : bLen [.tup l] = fun S P _ => P (.int l.length) S := rfl
theorem bLen_hnd (n : Nat) : bLen [.hnd n] = fun S P _ => (match S.W[n]? with
    | some (.lst l) => P (.int l.length) S
    | _ => False) := by
  funext S P X
  simp only [bLen, rdS, rdL]
  cases S.W[n]? with
  | none => rfl
  | some o => cases o <;> rfl
theorem dSet_hnd (n : Nat) (i d : D) : dSet (.hnd n) i d = fun S P => (match S.W[n]? with
    | some (.lst l) => ixSet l i d fun l' => P ⟨S.σ, S.W.set n (.lst l')⟩
    | some (.dct ks l) => (match toKey i with
      | some k => ks.length < sizeLine ∧ P ⟨S.σ, S.W.set n (.dct (putD ks l k d).1 (putD ks l k d).2)⟩
      | none => False)
    | _ => False) := rfl
theorem toKey_int (i : Int) : toKey (.int i) = some (.inl i) := rfl
theorem toKey_str (i : Str) : toKey (.str i) = some (.inr i) := rfl
end Tw

set_option Elab.async false
set_option linter.all false
set_option maxRecDepth 100000
set_option maxHeartbeats 4000000
namespace Tw
open PySem PySem.Spec PyProof.Rows L2
/-! ### while, by a measure -/
theorem sWhile_ind {c : M Bool} {b : MS} {S : AS} {E : AEnds} (I : Nat → AS → Prop) (n : Nat) (h0 : I n S)
    (hs : ∀ n S, I n S → ∀ N : AS → Prop, (∀ m S', m < n → I m S' → N S') → c S (fun t S1 => if t = true then b S1 { E with nx := N, ct := N, bk := E.nx } else E.nx S1) E.ex) : sWhile c b S E := by
  refine ⟨n + 1, ?_⟩
  have key : ∀ (f n : Nat) (S : AS), n < f → I n S → whileN c b f S E := by
    intro f
    induction f with
    | zero => intro n S h; omega
    | succ f ih =>
      intro n S h i
      exact hs n S i _ fun m S' hm i' => ih m S' (by omega) i'
  exact key (n + 1) n S (by omega) h0
/-! ### texts, by their signs -/
theorem cut_list (z : Str) (lo hi : Option Int) : (cutS z lo hi).cps.toList = (z.cps.toList.drop (HT.sIx z.length 0 lo)).take (HT.sIx z.length z.length hi - HT.sIx z.length 0 lo) := by
  show ((((z.cps.toList.drop (HT.sIx z.length 0 lo)).take (HT.sIx z.length z.length hi - HT.sIx z.length 0 lo)).toArray)).toList = _
  simp
theorem cut_to_list (z : Str) (v : Int) (k : Nat) (h : v = (k : Int)) : (cutS z none (some v)).cps.toList = z.cps.toList.take k := by
  subst h
  rw [cut_list, HT.sIx_none, HT.sIx_nat, Nat.sub_zero, List.drop_zero, ← len_cps]
  by_cases c : k ≤ z.cps.toList.length
  · rw [Nat.min_eq_left c]
  · rw [Nat.min_eq_right (by omega), List.take_of_length_le (Nat.le_refl _), List.take_of_length_le (by omega)]
theorem cut_from_list (z : Str) (v : Int) (k : Nat) (h : v = (k : Int)) : (cutS z (some v) none).cps.toList = z.cps.toList.drop k := by
  subst h
  rw [cut_list, HT.sIx_none, HT.sIx_nat, ← len_cps, List.take_of_length_le (by simp)]
  by_cases c : k ≤ z.cps.toList.length
  · rw [Nat.min_eq_left c]
  · rw [Nat.min_eq_right (by omega), List.drop_eq_nil_of_le (Nat.le_refl _), List.drop_eq_nil_of_le (by omega)]
theorem find_abc : ∀ k < 26, Txt.find "abcdefghijklmnopqrstuvwxyz" ⟨#[97 + k]⟩ = (k : Int) := by decide +kernel
theorem abc_get : ∀ k < 26, ("abcdefghijklmnopqrstuvwxyz" : Str).cps.toList[k]? = some (97 + k) := by decide +kernel
theorem small_iff {c : Nat} : isSmall c = true ↔ ∃ k < 26, c = 97 + k := by
  unfold isSmall
  rw [Bool.and_eq_true, decide_eq_true_eq, decide_eq_true_eq]
  exact ⟨fun h => ⟨c - 97, by omega, by omega⟩, fun ⟨k, h1, h2⟩ => by omega⟩
/-- one sign of a text moved on -/
def turn1 (l : List Nat) (at_ i : Nat) : Str := ⟨(l.set at_ (97 + ((l.getD at_ 97 - 97) + i) % 26)).toArray⟩
theorem turn1_list (l : List Nat) (a i : Nat) : (turn1 l a i).cps.toList = l.set a (97 + ((l.getD a 97 - 97) + i) % 26) := by simp [turn1]
theorem turn1_len (l : List Nat) (a i : Nat) : (turn1 l a i).length = l.length := by rw [← len_cps, turn1_list, List.length_set]
theorem turn1_get {l : List Nat} {a i : Nat} (h : a < l.length) : (turn1 l a i).cps.toList[a]? = some (97 + ((l.getD a 97 - 97) + i) % 26) := by rw [turn1_list, List.getElem?_set_self h]
theorem turn1_zero {z : Str} {a : Nat} (h : a < z.length) (hz : lowS z = true) : turn1 z.cps.toList a 0 = z := by
  refine str_ext ?_
  rw [turn1_list]
  have h' : a < z.cps.toList.length := by rw [len_cps]; exact h
  have hs := List.all_eq_true.mp hz _ (List.getElem_mem h')
  obtain ⟨k, hk, e⟩ := small_iff.mp hs
  rw [List.getD_eq_getElem?_getD, List.getElem?_eq_getElem h', Option.getD_some, e]
  have : 97 + (97 + k - 97 + 0) % 26 = 97 + k := by omega
  rw [this, ← e]
  exact List.set_getElem_self h'
theorem turn1_low {l : List Nat} {a i : Nat} (h : l.all isSmall = true) : lowS (turn1 l a i) = true := by
  unfold lowS
  rw [turn1_list, List.all_eq_true]
  intro x hx
  rcases List.mem_or_eq_of_mem_set hx with q | q
  · exact List.all_eq_true.mp h x q
  · subst q
    exact small_iff.mpr ⟨_, Nat.mod_lt _ (by decide), rfl⟩
theorem turn1_inj {l : List Nat} {a i j : Nat} (h : a < l.length) (hi : i < 26) (hj : j < 26) (e : turn1 l a i = turn1 l a j) : i = j := by
  have e1 := turn1_get (i := i) h
  rw [e, turn1_get h] at e1
  have := Option.some.inj e1
  omega
theorem turn1_step {l : List Nat} {a i : Nat} (h : a < l.length) {v w : Int} (hv : v = (a : Int)) (hw : w = (a : Int) + 1) : cutS (turn1 l a i) none (some v) ++ ⟨#[97 + ((l.getD a 97 - 97) + (i + 1)) % 26]⟩ ++ cutS (turn1 l a i) (some w) none = turn1 l a (i + 1) := by
  refine str_ext ?_
  rw [cps_add, cps_add, cut_to_list _ _ a hv, cut_from_list _ _ (a + 1) (by omega), turn1_list, turn1_list]
  have : (⟨#[97 + ((l.getD a 97 - 97) + (i + 1)) % 26]⟩ : Str).cps.toList = [97 + ((l.getD a 97 - 97) + (i + 1)) % 26] := rfl
  rw [this, List.set_eq_take_append_cons_drop, if_pos h]
  have h1 : (l.take a).length = a := by simp; omega
  rw [List.set_eq_take_append_cons_drop, if_pos h]
  rw [List.take_append_of_le_length (by omega), List.take_of_length_le (by omega), List.drop_append, h1]
  have h2 : (l.take a).drop (a + 1) = [] := List.drop_eq_nil_of_le (by omega)
  rw [h2]
  simp
theorem sub_len : ∀ {l m : List Str}, l.Nodup → (∀ x ∈ l, x ∈ m) → l.length ≤ m.length
  | [], m, _, _ => by simp
  | a :: l, m, hn, hs => by
    have ha := hs a List.mem_cons_self
    have := sub_len (m := m.erase a) (List.nodup_cons.mp hn).2 fun x hx => by
      have hxa : x ≠ a := fun e => (List.nodup_cons.mp hn).1 (e ▸ hx)
      exact (List.mem_erase_of_ne hxa).mpr (hs x (List.mem_cons_of_mem _ hx))
    rw [List.length_erase_of_mem ha] at this
    have hp := List.length_pos_of_mem ha
    simp only [List.length_cons]
    omega
theorem turn1_free {l : List Nat} {a : Nat} (h : a < l.length) {ss : List Str} (hs : ss.length < 26) : ∃ j < 26, turn1 l a j ∉ ss := by
  by_cases c : ∃ j < 26, turn1 l a j ∉ ss
  · exact c
  · have hall : ∀ x ∈ (List.range 26).map (turn1 l a), x ∈ ss := by
      intro x hx
      obtain ⟨j, hj, rfl⟩ := List.mem_map.mp hx
      rw [List.mem_range] at hj
      by_cases q : turn1 l a j ∈ ss
      · exact q
      · exact absurd ⟨j, hj, q⟩ c
    have hn : ((List.range 26).map (turn1 l a)).Nodup := by
      rw [List.nodup_iff_pairwise_ne, List.pairwise_map]
      refine List.Pairwise.imp_of_mem (fun {i j} hi hj hne e => ?_) (List.nodup_iff_pairwise_ne.mp List.nodup_range)
      exact hne (turn1_inj h (List.mem_range.mp hi) (List.mem_range.mp hj) e)
    have := sub_len hn hall
    simp at this
    omega
theorem any_str (ss : List Str) (z : Str) : ((ss.map D.str).any fun d => d.eq (.str z)) = decide (z ∈ ss) := by
  rw [Bool.eq_iff_iff, List.any_eq_true, decide_eq_true_eq]
  constructor
  · rintro ⟨d, hd, e⟩
    obtain ⟨s, hs, rfl⟩ := List.mem_map.mp hd
    rw [de_str_str] at e
    rw [← beq_iff_eq.mp e]
    exact hs
  · intro h
    exact ⟨.str z, List.mem_map_of_mem h, by rw [de_str_str]; simp⟩
theorem get_own_set (W g : Wd) (n : Nat) (o u : O) : (W.set n o ++ u :: g)[W.length]? = some u := by
  have := Tw.get_own (W.set n o) g u
  rwa [List.length_set] at this
theorem set_own_set (W g : Wd) (n : Nat) (o u v : O) : (W.set n o ++ u :: g).set W.length v = W.set n o ++ v :: g := by
  have := Tw.set_own (W.set n o) g u v
  rwa [List.length_set] at this
theorem get_row_set {W g : Wd} {n : Nat} {o : O} (h : n < W.length) : (W.set n o ++ g)[n]? = some o := by
  rw [List.getElem?_append_left (by simpa using h)]
  exact List.getElem?_set_self h
theorem set_row_set {W g : Wd} {n : Nat} {o p : O} (h : n < W.length) : (W.set n o ++ g).set n p = W.set n p ++ g := by
  rw [List.set_append_left _ _ (by simpa using h), set_set']
theorem Done.own1 {W W0 : Wd} {P : D → Wd → Prop} {l : List D} {g2 : Wd} (hl : W0.length = W.length) (c : Cl W W0) (hb : D.bels W.length l = true) (h : lstR P W0 l) : Done W P (.hnd W.length) (W0 ++ .lst l :: g2) := by
  refine .inr ⟨W0, .lst l :: g2, rfl, hl, c, .inr ⟨_, l, rfl, Nat.le_refl _, ?_, hb, ?_⟩⟩
  · rw [List.getElem?_append_right (by omega), hl]
    simp
  · rcases h with h | h
    · exact .inl h
    · rw [hl] at h
      exact .inr h
theorem Done.val1 {W W0 : Wd} {P : D → Wd → Prop} {d : D} {g : Wd} (hl : W0.length = W.length) (c : Cl W W0) (hb : d.bel W.length = true) (h : P d W0) : Done W P d (W0 ++ g) := .inr ⟨W0, g, rfl, hl, c, .inl ⟨hb, h⟩⟩
theorem row_cl {W : Wd} {n : Nat} (c w : Int) : Cl W (W.set n (rowO c w)) := Cl_set (rowO_bel _ _ _)
/-! ### data without handles, at most n deep -/
mutual
/-- texts, whole numbers, None, and lists and tuples of these -/
def cls : Nat → D → Bool
  | _, .non => true
  | _, .int _ => true
  | _, .str _ => true
  | n + 1, .tup l => clss n l
  | n + 1, .lst l => clss n l
  | _, _ => false
def clss : Nat → List D → Bool
  | _, [] => true
  | n, d :: l => cls n d && clss n l
end
theorem vw_cls {n : Nat} {d : D} {W : Wd} (h : cls n d = true) : vw W d = d := by
  cases d with
  | hnd k => cases n <;> simp [cls] at h
  | _ => rfl
theorem clss_mem : ∀ {l : List D} {n : Nat} {d : D}, clss n l = true → d ∈ l → cls n d = true
  | [], _, _, _, h => by cases h
  | a :: l, n, d, h, hd => by
    rw [clss, Bool.and_eq_true] at h
    rcases List.mem_cons.mp hd with rfl | q
    · exact h.1
    · exact clss_mem h.2 q
inductive Kd (W : Wd) : Nat → D → D → Prop where
  | non {n} : Kd W n .non .non
  | int {n} (i : Int) : Kd W n (.int i) (.int i)
  | str {n} (s : Str) : Kd W n (.str s) (.str s)
  | tup {n} (l : List D) (h : clss n l = true) : Kd W (n + 1) (.tup l) (.tup l)
  | lst {n} (l : List D) (h : clss n l = true) : Kd W (n + 1) (.lst l) (.lst l)
  | hnd {n} (k : Nat) (l : List D) (e : W[k]? = some (.lst l)) (h : clss n l = true) : Kd W (n + 1) (.hnd k) (.lst l)
theorem kd_of {W : Wd} {n : Nat} {d : D} (h : cls n (vw W d) = true) : Kd W n d (vw W d) := by
  cases d with
  | non => exact .non
  | int i => exact .int i
  | str s => exact .str s
  | tup l =>
    rw [vw_tup] at h ⊢
    cases n with
    | zero => simp [cls] at h
    | succ n => exact .tup l (by simpa [cls] using h)
  | lst l =>
    rw [vw_lst] at h ⊢
    cases n with
    | zero => simp [cls] at h
    | succ n => exact .lst l (by simpa [cls] using h)
  | hnd k =>
    rw [vw_hnd] at h ⊢
    split at h
    · rename_i l e
      cases n with
      | zero => simp [cls] at h
      | succ n => exact .hnd k l e (by simpa [cls] using h)
    · cases n <;> simp [cls] at h
  | bl b => cases n <;> simp [vw, cls] at h
  | ty b => cases n <;> simp [vw, cls] at h
  | gl b => cases n <;> simp [vw, cls] at h
  | gb b => cases n <;> simp [vw, cls] at h
  | sq b => cases n <;> simp [vw, cls] at h
  | dct a b => cases n <;> simp [vw, cls] at h
theorem zipD_map : ∀ l m : List D, zipD l m = (l.zip m).map fun p => .tup [p.1, p.2]
  | [], _ => by simp [zipD]
  | a :: l, [] => by simp [zipD]
  | a :: l, b :: m => by simp [zipD, zipD_map l m]
theorem eqs_zip : ∀ {l m : List D}, l.length = m.length → D.eqs l m = (l.zip m).all fun p => p.1.eq p.2
  | [], [], _ => by simp [D.eqs]
  | [], b :: m, h => by simp at h
  | a :: l, [], h => by simp at h
  | a :: l, b :: m, h => by
    rw [deqs_cc, eqs_zip (by simpa using h)]
    simp
theorem eqs_len : ∀ {l m : List D}, D.eqs l m = true → l.length = m.length
  | [], [], _ => rfl
  | [], b :: m, h => by simp [D.eqs] at h
  | a :: l, [], h => by simp [D.eqs] at h
  | a :: l, b :: m, h => by
    rw [deqs_cc, Bool.and_eq_true] at h
    simp [eqs_len h.2]
theorem wAt_snoc (l : List LRow) (b : Int) (e : Option Int) (o : Option Str) (m : Int) : wAt (l ++ [(b, e, [o])]).reverse m = if inSt (b, e) m = true then o else wAt l.reverse m := by
  rw [List.reverse_append, List.reverse_singleton, List.singleton_append, wAt, atL, rst]
  split <;> rfl
theorem clss_oS (n : Nat) : ∀ t : Tl, clss n (t.map oS) = true
  | [] => by simp [clss]
  | none :: t => by
    have := clss_oS n t
    cases n <;> simp [clss, oS, cls, this]
  | some z :: t => by
    have := clss_oS n t
    cases n <;> simp [clss, oS, cls, this]
theorem cls_oD (n : Nat) (o : Option Int) : cls n (oD o) = true := by cases o <;> cases n <;> simp [oD, cls]
theorem cls_oS (n : Nat) (o : Option Str) : cls n (oS o) = true := by cases o <;> cases n <;> simp [oS, cls]
theorem cls_int (n : Nat) (i : Int) : cls n (.int i) = true := by cases n <;> simp [cls]
theorem cls_rowD (n : Nat) (r : LRow) : cls (n + 1) (rowD r) = true := by
  simp only [rowD, cls, clss, cls_int, cls_oD, clss_oS, Bool.and_self]
theorem clss_rows (n : Nat) : ∀ l : List LRow, clss (n + 1) (l.map rowD) = true
  | [] => by simp [clss]
  | r :: l => by simp [clss, cls_rowD, clss_rows n l]
theorem cls_rows (n : Nat) (l : List LRow) : cls (n + 2) (.lst (l.map rowD)) = true := by
  simp only [cls]
  exact clss_rows n l
theorem worth_pick {names : List Str} {r : Int} (h0 : 0 ≤ r) (h1 : r < names.length + 1) : ∃ o : Option Str, atI (names.map D.str ++ [D.non]) r = some (oS o) ∧ ∀ z, o = some z → z ∈ names := by
  obtain ⟨a, ha, e⟩ := atI_ge (l := names.map D.str ++ [D.non]) h0 (by simp; omega)
  rcases List.mem_append.mp ha with q | q
  · obtain ⟨z, hz, rfl⟩ := List.mem_map.mp q
    exact ⟨some z, e, fun y hy => by cases hy; exact hz⟩
  · simp at q
    subst q
    exact ⟨none, e, fun y hy => by cases hy⟩
theorem Sing.joinL {l : List LRow} (h : Sing l) : Sing (joinL l) := fun r hr => by
  obtain ⟨⟨q, hq, _, e⟩, _⟩ := joinL_mem hr
  obtain ⟨o, ho⟩ := h q hq
  exact ⟨o, e.trans ho⟩
theorem Sing.putL {l : List LRow} (h : Sing l) (b : Int) (e : Option Int) (o : Option Str) : Sing (putL l b e (tl o)) := by
  refine Sing.joinL ?_
  unfold putRows
  refine Sing.app (Sing.app ?_ ?_) ?_
  · unfold headCut
    split
    · exact h.cut _ _
    · exact Sing.nil
  · cases o with
    | none => exact Sing.nil
    | some z => exact Sing.one _ _ _
  · cases e with
    | none => exact Sing.nil
    | some e => exact h.cut _ _
theorem rg9 : ∀ j < 64, RgC 0 ((j : Nat) : Int) 9 (Builtin.Range.rangeSize 0 ((j : Nat) : Int) 9).toNat := by
  unfold RgC
  decide +kernel
theorem cut_ints (ns : List Int) (lo hi : Option Int) : ∃ cs : List Int, cutD (ns.map D.int) lo hi = cs.map D.int ∧ cs.length ≤ ns.length := by
  unfold cutD
  rw [← List.map_drop, ← List.map_take]
  exact ⟨_, rfl, by simp; omega⟩
end Tw

set_option Elab.async false
set_option linter.all false
set_option maxRecDepth 100000
set_option maxHeartbeats 4000000
namespace Tw
open PySem PySem.Spec PyProof.Rows L2
/-! ### cut lines are lines -/
theorem Can.weak : ∀ {l : List LRow} {lo lo' : Int} {t t' : Option Tl}, Can lo t l → lo' < lo → Can lo' t' l
  | [], _, _, _, _, _, _ => True.intro
  | (b, none, t) :: l, lo, lo', t0, t0', h, q => ⟨by have := h.1; omega, fun z => by have := h.1; omega, h.2.2⟩
  | (b, some e, t) :: l, lo, lo', t0, t0', h, q => ⟨by have := h.1; omega, fun z => by have := h.1; omega, h.2.2⟩
theorem Can.low {l : List LRow} {lo lo' : Int} {t : Option Tl} (h : Can lo t l) (q : lo' ≤ lo) : Can lo' none l := by
  rcases Int.lt_or_eq_of_le q with c | c
  · exact h.weak c
  · subst c; exact h.free
theorem cutL_can {b : Int} {q : Option Int} : ∀ {l : List LRow} {lo : Int} {t0 : Option Tl}, Can lo t0 l → Can (max lo b) (if b ≤ lo then t0 else none) (cutL l b q)
  | [], _, _, _ => True.intro
  | (rb, re, t) :: l, lo, t0, h => by
    have h1 := h.1
    have h2 := h.2.1
    unfold cutL
    rw [List.filterMap_cons, cutRow]
    have key : ∀ e', re = some e' → Can (max e' b) (if b ≤ e' then some t else none) (cutL l b q) := fun e' he => by subst he; exact cutL_can h.2.2.2
    cases hc : common (rst (rb, re, t)) (b, q) with
    | none =>
      simp only [Option.map_none]
      cases re with
      | none =>
        have : l = [] := h.2.2
        subst this
        exact True.intro
      | some e' =>
        have h3 := h.2.2.1
        have k := key e' rfl
        by_cases c : max lo b < max e' b
        · exact k.weak c
        · have e1 : max e' b = max lo b := by omega
          rw [e1] at k
          rw [if_neg (by omega)]
          exact k.free
    | some s =>
      obtain ⟨s1, s2, s3⟩ := common_some hc
      simp only [Option.map_some]
      obtain ⟨sb, se⟩ := s
      simp only [rst] at s1 s2 s3 ⊢
      refine ⟨by omega, fun z => ?_, ?_⟩
      · split
        · exact h2 (by omega)
        · simp
      · cases se with
        | none =>
          obtain ⟨r1, r2⟩ := earlier_none s2.symm
          subst r1
          have : l = [] := h.2.2
          subst this
          rfl
        | some v =>
          have hv := s3 v rfl
          refine ⟨hv, ?_⟩
          cases re with
          | none =>
            have : l = [] := h.2.2
            subst this
            exact True.intro
          | some e' =>
            have k := key e' rfl
            have hle := (earlier_some s2.symm).1 e' rfl
            rcases Int.lt_or_eq_of_le hle with c | c
            · exact k.weak (by omega)
            · subst c
              rw [if_pos (by omega), Int.max_eq_left (by omega)] at k
              exact k
theorem cutL_can0 {l : List LRow} {lo : Int} {t0 : Option Tl} (h : Can lo t0 l) (b : Int) (q : Option Int) : Can (max lo b) none (cutL l b q) := (cutL_can h).free
theorem cutL_all {l : List LRow} (h : Can 0 none l) : cutL l 0 none = l := by
  refine (cutL_can0 h 0 none).uniq h fun m => ?_
  rw [cutL_at, inSt_none]
  by_cases c : 0 ≤ m
  · simp [c]
  · rw [atL_lo h.prp (by omega)]
    simp
theorem Can.app : ∀ {A B : List LRow} {lo : Int} {t0 : Option Tl}, Can lo t0 A → (A = [] → Can lo t0 B) → (∀ p a, A = p ++ [a] → ∃ e, a.2.1 = some e ∧ Can e (some a.2.2) B) → Can lo t0 (A ++ B)
  | [], B, _, _, _, h, _ => h rfl
  | (b, none, t) :: A, B, lo, t0, h, _, k => by
    have : A = [] := h.2.2
    subst this
    obtain ⟨e, he, _⟩ := k [] _ rfl
    cases he
  | (b, some e, t) :: A, B, lo, t0, h, _, k => by
    refine ⟨h.1, h.2.1, h.2.2.1, Can.app h.2.2.2 (fun hA => ?_) fun p a hp => k ((b, some e, t) :: p) a (by rw [hp]; rfl)⟩
    subst hA
    obtain ⟨e', he, hB⟩ := k [] (b, some e, t) rfl
    cases he
    exact hB
theorem Can.merge : ∀ {A B : List LRow} {lo m ab : Int} {be : Option Int} {bt : Tl} {t0 : Option Tl}, Can lo t0 (A ++ [(ab, some m, bt)]) → Can m none ((m, be, bt) :: B) → Can lo t0 (A ++ (ab, be, bt) :: B)
  | [], B, lo, m, ab, be, bt, t0, h, k => by
    have hm := h.2.2.1
    cases be with
    | none => exact ⟨h.1, h.2.1, k.2.2⟩
    | some e => exact ⟨h.1, h.2.1, by have := k.2.2.1; omega, k.2.2.2⟩
  | (b, none, t) :: A, B, lo, m, ab, be, bt, t0, h, k => by
    have := h.2.2
    simp at this
  | (b, some e, t) :: A, B, lo, m, ab, be, bt, t0, h, k => ⟨h.1, h.2.1, h.2.2.1, Can.merge h.2.2.2 k⟩
theorem atL_merge {ab m : Int} {be : Option Int} {bt : Tl} {B : List LRow} (h1 : ab < m) (h2 : ∀ e, be = some e → m < e) (x : Int) : ∀ A : List LRow, atL (A ++ (ab, be, bt) :: B) x = atL ((A ++ [(ab, some m, bt)]) ++ (m, be, bt) :: B) x
  | [] => by
    simp only [List.nil_append, List.singleton_append]
    rw [atL_some]
    cases be with
    | none =>
      rw [atL_none, atL_none]
      by_cases c : ab ≤ x
      · rw [if_pos c]
        by_cases d : x < m
        · rw [if_pos ⟨c, d⟩]
        · rw [if_neg (by omega), if_pos (by omega)]
      · rw [if_neg c, if_neg (by omega), if_neg (by omega)]
    | some e =>
      have := h2 e rfl
      rw [atL_some, atL_some]
      by_cases c : ab ≤ x ∧ x < e
      · rw [if_pos c]
        by_cases d : x < m
        · rw [if_pos ⟨c.1, d⟩]
        · rw [if_neg (by omega), if_pos (by omega)]
      · rw [if_neg c, if_neg (by omega), if_neg (by omega)]
  | r :: A => by
    rw [List.cons_append, List.cons_append, List.cons_append, atL, atL, atL_merge h1 h2 x A]
/-- the two halves of a line, as they stand or with their border taken away -/
theorem halves {l : List LRow} {m : Int} (h : Can 0 none l) (hm : 0 < m) :
    (∀ p ab bt be B, cutL l 0 (some m) = p ++ [(ab, some m, bt)] → cutL l m none = (m, be, bt) :: B → p ++ (ab, be, bt) :: B = l) ∧
    ((∀ p a b B, cutL l 0 (some m) = p ++ [a] → cutL l m none = b :: B → a.2.1 = some m → b.1 = m → a.2.2 ≠ b.2.2) → cutL l 0 (some m) ++ cutL l m none = l) := by
  have hA := cutL_can0 h 0 (some m)
  have hB := cutL_can0 h m none
  rw [Int.max_self] at hA
  rw [Int.max_eq_right (by omega)] at hB
  have hat : ∀ x, atL (cutL l 0 (some m) ++ cutL l m none) x = atL l x := by
    intro x
    rw [atL_app, cutL_at, cutL_at, inSt_some, inSt_none]
    by_cases c : x < 0
    · rw [atL_lo h.prp c]
      simp
    · by_cases d : x < m
      · have e1 : (decide (0 ≤ x) && decide (x < m)) = true := by simp; omega
        have e2 : decide (m ≤ x) = false := by simp; omega
        rw [if_pos e1, e2]
        cases atL l x <;> simp
      · have e1 : (decide (0 ≤ x) && decide (x < m)) = false := by simp; omega
        have e2 : decide (m ≤ x) = true := by simp; omega
        rw [e1, e2]
        simp
  constructor
  · intro p ab bt be B e1 e2
    rw [e1] at hA
    rw [e2] at hB
    have c1 : ab < m := by
      have := (hA.lt (r := (ab, some m, bt)) (by simp)).2 m rfl
      exact this
    refine (hA.merge hB).uniq h fun x => ?_
    rw [atL_merge c1 (fun e he => by subst he; exact hB.2.2.1), ← hat, e1, e2]
  · intro hne
    refine Can.uniq (lo1 := 0) (t1 := none) (Can.app hA (fun _ => hB.low (by omega)) fun p a hp => ?_) h hat
    obtain ⟨e, he, hle⟩ := cutL_ends (l := l) (b := 0) (e := m) a (by rw [hp]; simp)
    refine ⟨e, he, ?_⟩
    cases hBB : cutL l m none with
    | nil => exact True.intro
    | cons b B =>
      rw [hBB] at hB
      obtain ⟨bb, be, bt⟩ := b
      by_cases c : e < m
      · exact hB.weak c
      · have e1 : e = m := by omega
        subst e1
        have := hne p a (bb, be, bt) B hp hBB he
        refine ⟨hB.1, fun z => ?_, hB.2.2⟩
        intro y
        exact this z (Option.some.inj y)
/-! ### a comprehension that lays objects -/
theorem lcL_ext {σ0 : List (Option D)} {own : List Nat} {n : Nat} {chk : Wd → Prop} {g : MG} {t : M Bool} {e : M D} {k : Wd → Prop} {α : Type} (enc : α → D) (I : List α → List D → Wd → Prop) (all : List α) (W0 : Wd) (hW0 : W0[n]? = some (.lst [])) (h0 : I [] [] W0) (hc : ∀ pre acc W, I pre acc W → chk W) (hl : all.length ≤ 1000000)
    (hs : ∀ pre x post acc W, all = pre ++ x :: post → W[n]? = some (.lst acc) → I pre acc W → ∀ N : Option D → Wd → Prop,
      (∀ d W', W'[n]? = some (.lst acc) → I (pre ++ [x]) (acc ++ [d]) (W'.set n (.lst (acc ++ [d]))) → N (some d) W') → (∀ W', W'[n]? = some (.lst acc) → I (pre ++ [x]) acc W' → N none W') → lcTurn σ0 own g t e (enc x) W N)
    (he : ∀ acc W, W[n]? = some (.lst acc) → acc.length ≤ all.length → I all acc W → k W) : lcL σ0 own n chk g t e (all.map enc) W0 k := by
  have key : ∀ (post pre : List α) (acc : List D) (W : Wd), all = pre ++ post → W[n]? = some (.lst acc) → acc.length ≤ pre.length → I pre acc W → lcL σ0 own n chk g t e (post.map enc) W k := by
    intro post
    induction post with
    | nil =>
      intro pre acc W ea hW hz i
      rw [List.append_nil] at ea
      subst ea
      exact he acc W hW hz i
    | cons x post ih =>
      intro pre acc W ea hW hz i
      have hp : pre.length < all.length := by rw [ea]; simp
      have ea2 : all = (pre ++ [x]) ++ post := by rw [ea]; simp
      refine lcL_turn (hs pre x post acc W ea hW i _ (fun d W' hW' i' => ?_) fun W' hW' i' => ?_)
      · have hn : n < W'.length := (List.getElem?_eq_some_iff.mp hW').1
        simp only [hW']
        exact ⟨sz_lt (by omega), hc _ _ _ i', ih (pre ++ [x]) (acc ++ [d]) _ ea2 (List.getElem?_set_self hn) (by simp; omega) i'⟩
      · exact ⟨hc _ _ _ i', ih (pre ++ [x]) acc W' ea2 hW' (by simp; omega) i'⟩
  exact key all [] [] W0 (by simp) hW0 (Nat.le_refl _) h0
theorem lcFin_hnd {S1 : AS} {P : D → AS → Prop} {W : Wd} (h : P (.hnd S1.W.length) ⟨S1.σ, W⟩) : lcFin false S1 P W := by
  unfold lcFin
  rw [if_neg (by decide)]
  exact h
/-! ### streams among the objects -/
def Rows (V : Wd) (hs : List Nat) : Prop := ∀ h ∈ hs, ∃ c w, V[h]? = some (rowO c w) ∧ rowOk c w
theorem Rows.set {V : Wd} {hs : List Nat} {n : Nat} {c w : Int} (h : Rows V hs) (o : rowOk c w) : Rows (V.set n (rowO c w)) hs := by
  intro k hk
  obtain ⟨c0, w0, e, o0⟩ := h k hk
  by_cases q : n = k
  · subst q
    exact ⟨c, w, List.getElem?_set_self (List.getElem?_eq_some_iff.mp e).1, o⟩
  · exact ⟨c0, w0, by rw [List.getElem?_set_ne q]; exact e, o0⟩
theorem Rows.other {V : Wd} {hs : List Nat} {n : Nat} {u : O} (h : Rows V hs) (hn : n ∉ hs) : Rows (V.set n u) hs := by
  intro k hk
  obtain ⟨c0, w0, e, o0⟩ := h k hk
  have q : n ≠ k := fun z => hn (z ▸ hk)
  exact ⟨c0, w0, by rw [List.getElem?_set_ne q]; exact e, o0⟩
theorem Rows.grow {V : Wd} {hs : List Nat} (h : Rows V hs) (g : Wd) : Rows (V ++ g) hs := by
  intro k hk
  obtain ⟨c0, w0, e, o0⟩ := h k hk
  exact ⟨c0, w0, get_app e, o0⟩
theorem Rows.lt {V : Wd} {hs : List Nat} (h : Rows V hs) {k : Nat} (hk : k ∈ hs) : k < V.length := by
  obtain ⟨c, w, e, _⟩ := h k hk
  exact (List.getElem?_eq_some_iff.mp e).1
theorem Rows.new {V : Wd} {hs : List Nat} (h : Rows V hs) : V.length ∉ hs := fun q => Nat.lt_irrefl _ (h.lt q)
theorem Cl.set {V W : Wd} {n : Nat} {o : O} (c : Cl V W) (h : o.bel W.length = true) : Cl V (W.set n o) := by
  intro i u hu
  rw [List.getElem?_set] at hu
  split at hu
  · split at hu
    · cases hu
      right
      simpa using h
    · cases hu
  · rw [List.length_set]
    exact c i u hu
theorem Rows.nil {V : Wd} : Rows V [] := fun k hk => by cases hk
end Tw

set_option Elab.async false
set_option linter.all false
set_option maxRecDepth 100000
set_option maxHeartbeats 4000000
namespace Tw
open PySem PySem.Spec PyProof.Rows L2
structure Z4 (z TI TO i1 i2 i3 i4 l1 l2 l3 l4 : Addr) : Prop where
  n_z_TI : z ≠ TI
  n_z_TO : z ≠ TO
  n_z_i1 : z ≠ i1
  n_z_i2 : z ≠ i2
  n_z_i3 : z ≠ i3
  n_z_i4 : z ≠ i4
  n_TI_z : TI ≠ z
  n_TI_TO : TI ≠ TO
  n_TI_i1 : TI ≠ i1
  n_TI_i2 : TI ≠ i2
  n_TI_i3 : TI ≠ i3
  n_TI_i4 : TI ≠ i4
  n_TO_z : TO ≠ z
  n_TO_TI : TO ≠ TI
  n_TO_i1 : TO ≠ i1
  n_TO_i2 : TO ≠ i2
  n_TO_i3 : TO ≠ i3
  n_TO_i4 : TO ≠ i4
  n_i1_z : i1 ≠ z
  n_i1_TI : i1 ≠ TI
  n_i1_TO : i1 ≠ TO
  n_i1_i2 : i1 ≠ i2
  n_i1_i3 : i1 ≠ i3
  n_i1_i4 : i1 ≠ i4
  n_i2_z : i2 ≠ z
  n_i2_TI : i2 ≠ TI
  n_i2_TO : i2 ≠ TO
  n_i2_i1 : i2 ≠ i1
  n_i2_i3 : i2 ≠ i3
  n_i2_i4 : i2 ≠ i4
  n_i3_z : i3 ≠ z
  n_i3_TI : i3 ≠ TI
  n_i3_TO : i3 ≠ TO
  n_i3_i1 : i3 ≠ i1
  n_i3_i2 : i3 ≠ i2
  n_i3_i4 : i3 ≠ i4
  n_i4_z : i4 ≠ z
  n_i4_TI : i4 ≠ TI
  n_i4_TO : i4 ≠ TO
  n_i4_i1 : i4 ≠ i1
  n_i4_i2 : i4 ≠ i2
  n_i4_i3 : i4 ≠ i3
  n_l1_z : l1 ≠ z
  n_l1_TO : l1 ≠ TO
  n_l1_i1 : l1 ≠ i1
  n_l1_i2 : l1 ≠ i2
  n_l1_i3 : l1 ≠ i3
  n_l1_i4 : l1 ≠ i4
  n_l2_z : l2 ≠ z
  n_l2_TO : l2 ≠ TO
  n_l2_i1 : l2 ≠ i1
  n_l2_i2 : l2 ≠ i2
  n_l2_i3 : l2 ≠ i3
  n_l2_i4 : l2 ≠ i4
  n_l3_z : l3 ≠ z
  n_l3_TO : l3 ≠ TO
  n_l3_i1 : l3 ≠ i1
  n_l3_i2 : l3 ≠ i2
  n_l3_i3 : l3 ≠ i3
  n_l3_i4 : l3 ≠ i4
  n_l4_z : l4 ≠ z
  n_l4_TO : l4 ≠ TO
  n_l4_i1 : l4 ≠ i1
  n_l4_i2 : l4 ≠ i2
  n_l4_i3 : l4 ≠ i3
  n_l4_i4 : l4 ≠ i4
abbrev IsT4 (h : Heap) (T : Addr) (a b c d : Value) : Prop := h.get? T = some { cls := .type "tuple", data := .seq #[a, b, c, d] }
section
variable {prog : Program} {w : World} {A : Around} {E : Value → Shared → Prop} {s : Shared}
theorem upd_T4 {T : Addr} {a b c d x : Value} {k : Nat} {Q : Unit → Shared → Prop} (hT : IsT4 s.heap T a b c d)
    (h : ∀ g, g.get? T = some { cls := .type "tuple", data := .seq ((#[a, b, c, d] : Array Value).setIfInBounds k x) } → Heap.SameBut T s.heap g → Q () { s with heap := g }) : wpAny (model prog w) A (updateSeq T (·.setIfInBounds k x)) Q E s := by
  refine wpAny_updateSeq hT rfl (h _ ?_ (Heap.SameBut.update ..))
  rw [Heap.get?_update_self _ hT rfl]
  simp [Obj.mapSeq]
theorem zip4_item {z TI TO i1 i2 i3 i4 l1 l2 l3 l4 : Addr} {n : Nat} {a1 a2 a3 a4 : Array Value} {v1 v2 v3 v4 : Value} {x1 x2 x3 x4 : Value} {Q : Value → Shared → Prop} (D : Z4 z TI TO i1 i2 i3 i4 l1 l2 l3 l4) (hz : IsZip s.heap z TI TO .none) (hI : IsT4 s.heap TI (.ref i1) (.ref i2) (.ref i3) (.ref i4)) (hO : IsT4 s.heap TO v1 v2 v3 v4)
    (t1 : s.heap.IsListIter i1 l1 n) (t2 : s.heap.IsListIter i2 l2 n) (t3 : s.heap.IsListIter i3 l3 n) (t4 : s.heap.IsListIter i4 l4 n) (k1 : s.heap.IsList l1 a1) (k2 : s.heap.IsList l2 a2) (k3 : s.heap.IsList l3 a3) (k4 : s.heap.IsList l4 a4) (e1 : a1[n]? = some x1) (e2 : a2[n]? = some x2) (e3 : a3[n]? = some x3) (e4 : a4[n]? = some x4)
    (hQ : ∀ g, IsZip g z TI TO (rawInt s.heap.objs.size) → IsT4 g TO x1 x2 x3 x4 → g.IsListIter i1 l1 (n + 1) → g.IsListIter i2 l2 (n + 1) → g.IsListIter i3 l3 (n + 1) → g.IsListIter i4 l4 (n + 1) → IsT4 g s.heap.objs.size x1 x2 x3 x4 → g.objs.size = s.heap.objs.size + 1 → (∀ c o, c ≠ z → c ≠ TO → c ≠ i1 → c ≠ i2 → c ≠ i3 → c ≠ i4 → s.heap.get? c = some o → g.get? c = some o) → Q (.ref s.heap.objs.size) { s with heap := g }) :
    wpAny (model prog w) A (Builtin.«zip.__next__» ⟨[.ref z], []⟩) (fun fin s2 => ∃ v, fin = .done (.ret v) ∧ Q v s2) E s := by
  show wpAny _ _ (field (.ref z) 2 >>= fun _ => _) _ _ _
  refine wpAny_bind (wpAny_field (x := .bool false) hz rfl rfl ?_)
  show wpAny _ _ (field (.ref z) 3 >>= fun _ => _) _ _ _
  refine wpAny_bind (wpAny_field (x := .ref TI) hz rfl rfl (wpAny_bind (wpAny_seqItems hI rfl ?_)))
  show wpAny _ _ (Builtin.SmallTypes.ownedTupleIsFree (.ref z) >>= fun _ => _) _ _ _
  unfold Builtin.SmallTypes.ownedTupleIsFree
  refine wpAny_bind (wpAny_bind (wpAny_field (x := .none) hz rfl rfl (wpAny_pure ?_)))
  simp only [if_true]
  refine wpAny_bind (wpAny_rule (wpAny_bind (wpAny_field (x := .ref TO) hz rfl rfl (wpAny_bind (wpAny_setField_rec hz (by simp) fun g0 z0 s0 => ?_)))))
  replace z0 : IsZip g0 z TI TO .ellipsis := z0
  refine wpAny_bind ?_
  simp only [List.forIn_cons, List.forIn_nil, List.zipIdx_cons, List.zipIdx_nil]
  refine wpAny_bind (wpAny_bind (wpAny_onRaise ?_))
  show wpAny _ _ (Builtin.SmallTypes.nextOf (.ref i1) >>= fun _ => _) _ _ _
  refine wpAny_bind (wpAny_nextOf_list_item (t1.extBut s0.extBut D.n_i1_z) (k1.extBut s0.extBut D.n_l1_z) e1 fun p1 u1 q1 => wpAny_pure ?_)
  have w1 : IsT4 p1 TO v1 v2 v3 v4 := (q1.extBut _ _ D.n_TO_i1 (s0.extBut _ _ D.n_TO_z hO))
  refine wpAny_bind (wpAny_seqItems w1 rfl (wpAny_bind (upd_T4 w1 fun g1 o1 s1 => ?_)))
  replace o1 : IsT4 g1 TO x1 v2 v3 v4 := o1
  refine wpAny_bind (wpAny_letGo (wpAny_pure ?_))
  refine wpAny_bind (wpAny_bind (wpAny_onRaise ?_))
  show wpAny _ _ (Builtin.SmallTypes.nextOf (.ref i2) >>= fun _ => _) _ _ _
  refine wpAny_bind (wpAny_nextOf_list_item (((t2.extBut s0.extBut D.n_i2_z).extBut q1.extBut D.n_i2_i1).extBut s1.extBut D.n_i2_TO) (((k2.extBut s0.extBut D.n_l2_z).extBut q1.extBut D.n_l2_i1).extBut s1.extBut D.n_l2_TO) e2 fun p2 u2 q2 => wpAny_pure ?_)
  have w2 : IsT4 p2 TO x1 v2 v3 v4 := (q2.extBut _ _ D.n_TO_i2 o1)
  refine wpAny_bind (wpAny_seqItems w2 rfl (wpAny_bind (upd_T4 w2 fun g2 o2 s2 => ?_)))
  replace o2 : IsT4 g2 TO x1 x2 v3 v4 := o2
  refine wpAny_bind (wpAny_letGo (wpAny_pure ?_))
  refine wpAny_bind (wpAny_bind (wpAny_onRaise ?_))
  show wpAny _ _ (Builtin.SmallTypes.nextOf (.ref i3) >>= fun _ => _) _ _ _
  refine wpAny_bind (wpAny_nextOf_list_item (((((t3.extBut s0.extBut D.n_i3_z).extBut q1.extBut D.n_i3_i1).extBut s1.extBut D.n_i3_TO).extBut q2.extBut D.n_i3_i2).extBut s2.extBut D.n_i3_TO) (((((k3.extBut s0.extBut D.n_l3_z).extBut q1.extBut D.n_l3_i1).extBut s1.extBut D.n_l3_TO).extBut q2.extBut D.n_l3_i2).extBut s2.extBut D.n_l3_TO) e3 fun p3 u3 q3 => wpAny_pure ?_)
  have w3 : IsT4 p3 TO x1 x2 v3 v4 := (q3.extBut _ _ D.n_TO_i3 o2)
  refine wpAny_bind (wpAny_seqItems w3 rfl (wpAny_bind (upd_T4 w3 fun g3 o3 s3 => ?_)))
  replace o3 : IsT4 g3 TO x1 x2 x3 v4 := o3
  refine wpAny_bind (wpAny_letGo (wpAny_pure ?_))
  refine wpAny_bind (wpAny_bind (wpAny_onRaise ?_))
  show wpAny _ _ (Builtin.SmallTypes.nextOf (.ref i4) >>= fun _ => _) _ _ _
  refine wpAny_bind (wpAny_nextOf_list_item (((((((t4.extBut s0.extBut D.n_i4_z).extBut q1.extBut D.n_i4_i1).extBut s1.extBut D.n_i4_TO).extBut q2.extBut D.n_i4_i2).extBut s2.extBut D.n_i4_TO).extBut q3.extBut D.n_i4_i3).extBut s3.extBut D.n_i4_TO) (((((((k4.extBut s0.extBut D.n_l4_z).extBut q1.extBut D.n_l4_i1).extBut s1.extBut D.n_l4_TO).extBut q2.extBut D.n_l4_i2).extBut s2.extBut D.n_l4_TO).extBut q3.extBut D.n_l4_i3).extBut s3.extBut D.n_l4_TO) e4 fun p4 u4 q4 => wpAny_pure ?_)
  have w4 : IsT4 p4 TO x1 x2 x3 v4 := (q4.extBut _ _ D.n_TO_i4 o3)
  refine wpAny_bind (wpAny_seqItems w4 rfl (wpAny_bind (upd_T4 w4 fun g4 o4 s4 => ?_)))
  replace o4 : IsT4 g4 TO x1 x2 x3 x4 := o4
  refine wpAny_bind (wpAny_letGo (wpAny_pure (wpAny_pure ?_)))
  refine wpAny_bind (wpAny_seqItems o4 rfl (wpAny_bind (wpAny_newTuple ?_)))
  have size : g4.objs.size = s.heap.objs.size := by rw [s4.1, q4.1, s3.1, q3.1, s2.1, q2.1, s1.1, q1.1, s0.1]
  have zf : IsZip g4 z TI TO .ellipsis := (s4.extBut _ _ D.n_z_TO (q4.extBut _ _ D.n_z_i4 (s3.extBut _ _ D.n_z_TO (q3.extBut _ _ D.n_z_i3 (s2.extBut _ _ D.n_z_TO (q2.extBut _ _ D.n_z_i2 (s1.extBut _ _ D.n_z_TO (q1.extBut _ _ D.n_z_i1 z0))))))))
  have kf : ∀ c o, c ≠ z → c ≠ TO → c ≠ i1 → c ≠ i2 → c ≠ i3 → c ≠ i4 → s.heap.get? c = some o → g4.get? c = some o := fun c o cz cO c1 c2 c3 c4 e => (s4.extBut _ _ cO (q4.extBut _ _ c4 (s3.extBut _ _ cO (q3.extBut _ _ c3 (s2.extBut _ _ cO (q2.extBut _ _ c2 (s1.extBut _ _ cO (q1.extBut _ _ c1 (s0.extBut _ _ cz e)))))))))
  have f1 : g4.IsListIter i1 l1 (n + 1) := (((((((u1.extBut s1.extBut D.n_i1_TO).extBut q2.extBut D.n_i1_i2).extBut s2.extBut D.n_i1_TO).extBut q3.extBut D.n_i1_i3).extBut s3.extBut D.n_i1_TO).extBut q4.extBut D.n_i1_i4).extBut s4.extBut D.n_i1_TO)
  have f2 : g4.IsListIter i2 l2 (n + 1) := (((((u2.extBut s2.extBut D.n_i2_TO).extBut q3.extBut D.n_i2_i3).extBut s3.extBut D.n_i2_TO).extBut q4.extBut D.n_i2_i4).extBut s4.extBut D.n_i2_TO)
  have f3 : g4.IsListIter i3 l3 (n + 1) := (((u3.extBut s3.extBut D.n_i3_TO).extBut q4.extBut D.n_i3_i4).extBut s4.extBut D.n_i3_TO)
  have f4 : g4.IsListIter i4 l4 (n + 1) := (u4.extBut s4.extBut D.n_i4_TO)
  have zlt : z < g4.objs.size := Heap.lt_size zf
  show wpAny _ _ (Builtin.SmallTypes.ownedTupleHandOut (.ref z) (.ref g4.objs.size) >>= fun _ => _) _ _ _
  unfold Builtin.SmallTypes.ownedTupleHandOut
  have zp : IsZip (g4.push { cls := .type "tuple", data := .seq #[x1, x2, x3, x4] }) z TI TO .ellipsis := Heap.get?_push_of_some _ zf
  refine wpAny_bind (wpAny_bind (wpAny_setField_rec zp (by simp) fun m1 y1 r1 => ?_))
  replace y1 : IsZip m1 z TI TO (rawInt g4.objs.size) := y1
  refine wpAny_setField_rec y1 (by simp) fun m2 y2 r2 => ?_
  replace y2 : IsZip m2 z TI TO (rawInt g4.objs.size) := y2
  have up : ∀ c o, c ≠ z → g4.get? c = some o → m2.get? c = some o := fun c o cz e => r2.extBut _ _ cz (r1.extBut _ _ cz (Heap.get?_push_of_some _ e))
  have yT : IsT4 m2 g4.objs.size x1 x2 x3 x4 := r2.extBut _ _ (Nat.ne_of_gt zlt) (r1.extBut _ _ (Nat.ne_of_gt zlt) (Heap.get?_push_size _ rfl))
  have ys : m2.objs.size = g4.objs.size + 1 := by rw [r2.1, r1.1, Heap.size_push]
  rw [size] at y2 yT ys
  refine wpAny_pure ⟨_, rfl, ?_⟩
  show Q (.ref g4.objs.size) _
  rw [size]
  exact hQ m2 y2 (up _ _ D.n_TO_z o4) (f1.at fun o e => up _ o D.n_i1_z e) (f2.at fun o e => up _ o D.n_i2_z e) (f3.at fun o e => up _ o D.n_i3_z e) (f4.at fun o e => up _ o D.n_i4_z e) yT ys fun c o cz cO c1 c2 c3 c4 e => up c o cz (kf c o cz cO c1 c2 c3 c4 e)
theorem zip4_end {z TI TO i1 i2 i3 i4 l1 l2 l3 l4 : Addr} {n : Nat} {a1 a2 a3 a4 : Array Value} {v1 v2 v3 v4 : Value} {Q : Fin → Shared → Prop} (hh : A.handled = none) (D : Z4 z TI TO i1 i2 i3 i4 l1 l2 l3 l4) (hz : IsZip s.heap z TI TO .none) (hI : IsT4 s.heap TI (.ref i1) (.ref i2) (.ref i3) (.ref i4)) (hO : IsT4 s.heap TO v1 v2 v3 v4)
    (t1 : s.heap.IsListIter i1 l1 n) (t2 : s.heap.IsListIter i2 l2 n) (t3 : s.heap.IsListIter i3 l3 n) (t4 : s.heap.IsListIter i4 l4 n) (k1 : s.heap.IsList l1 a1) (k2 : s.heap.IsList l2 a2) (k3 : s.heap.IsList l3 a3) (k4 : s.heap.IsList l4 a4) (he : a1[n]? = none ∨ a2[n]? = none ∨ a3[n]? = none ∨ a4[n]? = none)
    (hE : ∀ g b, (∀ c o, c ≠ z → c ≠ TO → c ≠ i1 → c ≠ i2 → c ≠ i3 → c ≠ i4 → s.heap.get? c = some o → g.get? c = some o) → (∃ o, g.get? b = some o ∧ o.cls = .type "StopIteration") → E (.ref b) { s with heap := g }) : wpAny (model prog w) A (Builtin.«zip.__next__» ⟨[.ref z], []⟩) Q E s := by
  show wpAny _ _ (field (.ref z) 2 >>= fun _ => _) _ _ _
  refine wpAny_bind (wpAny_field (x := .bool false) hz rfl rfl ?_)
  show wpAny _ _ (field (.ref z) 3 >>= fun _ => _) _ _ _
  refine wpAny_bind (wpAny_field (x := .ref TI) hz rfl rfl (wpAny_bind (wpAny_seqItems hI rfl ?_)))
  show wpAny _ _ (Builtin.SmallTypes.ownedTupleIsFree (.ref z) >>= fun _ => _) _ _ _
  unfold Builtin.SmallTypes.ownedTupleIsFree
  refine wpAny_bind (wpAny_bind (wpAny_field (x := .none) hz rfl rfl (wpAny_pure ?_)))
  simp only [if_true]
  refine wpAny_bind (wpAny_rule (wpAny_bind (wpAny_field (x := .ref TO) hz rfl rfl (wpAny_bind (wpAny_setField_rec hz (by simp) fun g0 z0 s0 => ?_)))))
  replace z0 : IsZip g0 z TI TO .ellipsis := z0
  refine wpAny_bind ?_
  simp only [List.forIn_cons, List.forIn_nil, List.zipIdx_cons, List.zipIdx_nil]
  by_cases d1 : a1[n]? = none
  · refine wpAny_bind (wpAny_bind (wpAny_onRaise ?_))
    show wpAny _ _ (Builtin.SmallTypes.nextOf (.ref i1) >>= fun _ => _) _ _ _
    refine wpAny_bind (wpAny_nextOf_list_end hh (t1.extBut s0.extBut D.n_i1_z) (k1.extBut s0.extBut D.n_l1_z) d1 fun y b r hb => ?_)
    obtain ⟨ob, hob, hcb⟩ := hb
    have zy : IsZip y z TI TO .ellipsis := r _ _ D.n_z_i1 z0
    have bz : b ≠ z := fun q => by subst q; rw [zy] at hob; cases hob; simp at hcb
    refine wpAny_setField_rec zy (by simp) fun y2 _ r2 => hE y2 b (fun c o cz cO c1 c2 c3 c4 e => r2.extBut _ _ cz (r _ _ c1 (s0.extBut _ _ cz e))) ⟨ob, r2.extBut _ _ bz hob, hcb⟩
  obtain ⟨x1, e1⟩ := Option.ne_none_iff_exists'.mp d1
  refine wpAny_bind (wpAny_bind (wpAny_onRaise ?_))
  show wpAny _ _ (Builtin.SmallTypes.nextOf (.ref i1) >>= fun _ => _) _ _ _
  refine wpAny_bind (wpAny_nextOf_list_item (t1.extBut s0.extBut D.n_i1_z) (k1.extBut s0.extBut D.n_l1_z) e1 fun p1 u1 q1 => wpAny_pure ?_)
  have w1 : IsT4 p1 TO v1 v2 v3 v4 := (q1.extBut _ _ D.n_TO_i1 (s0.extBut _ _ D.n_TO_z hO))
  refine wpAny_bind (wpAny_seqItems w1 rfl (wpAny_bind (upd_T4 w1 fun g1 o1 s1 => ?_)))
  replace o1 : IsT4 g1 TO x1 v2 v3 v4 := o1
  refine wpAny_bind (wpAny_letGo (wpAny_pure ?_))
  by_cases d2 : a2[n]? = none
  · refine wpAny_bind (wpAny_bind (wpAny_onRaise ?_))
    show wpAny _ _ (Builtin.SmallTypes.nextOf (.ref i2) >>= fun _ => _) _ _ _
    refine wpAny_bind (wpAny_nextOf_list_end hh (((t2.extBut s0.extBut D.n_i2_z).extBut q1.extBut D.n_i2_i1).extBut s1.extBut D.n_i2_TO) (((k2.extBut s0.extBut D.n_l2_z).extBut q1.extBut D.n_l2_i1).extBut s1.extBut D.n_l2_TO) d2 fun y b r hb => ?_)
    obtain ⟨ob, hob, hcb⟩ := hb
    have zy : IsZip y z TI TO .ellipsis := r _ _ D.n_z_i2 (s1.extBut _ _ D.n_z_TO (q1.extBut _ _ D.n_z_i1 z0))
    have bz : b ≠ z := fun q => by subst q; rw [zy] at hob; cases hob; simp at hcb
    refine wpAny_setField_rec zy (by simp) fun y2 _ r2 => hE y2 b (fun c o cz cO c1 c2 c3 c4 e => r2.extBut _ _ cz (r _ _ c2 (s1.extBut _ _ cO (q1.extBut _ _ c1 (s0.extBut _ _ cz e))))) ⟨ob, r2.extBut _ _ bz hob, hcb⟩
  obtain ⟨x2, e2⟩ := Option.ne_none_iff_exists'.mp d2
  refine wpAny_bind (wpAny_bind (wpAny_onRaise ?_))
  show wpAny _ _ (Builtin.SmallTypes.nextOf (.ref i2) >>= fun _ => _) _ _ _
  refine wpAny_bind (wpAny_nextOf_list_item (((t2.extBut s0.extBut D.n_i2_z).extBut q1.extBut D.n_i2_i1).extBut s1.extBut D.n_i2_TO) (((k2.extBut s0.extBut D.n_l2_z).extBut q1.extBut D.n_l2_i1).extBut s1.extBut D.n_l2_TO) e2 fun p2 u2 q2 => wpAny_pure ?_)
  have w2 : IsT4 p2 TO x1 v2 v3 v4 := (q2.extBut _ _ D.n_TO_i2 o1)
  refine wpAny_bind (wpAny_seqItems w2 rfl (wpAny_bind (upd_T4 w2 fun g2 o2 s2 => ?_)))
  replace o2 : IsT4 g2 TO x1 x2 v3 v4 := o2
  refine wpAny_bind (wpAny_letGo (wpAny_pure ?_))
  by_cases d3 : a3[n]? = none
  · refine wpAny_bind (wpAny_bind (wpAny_onRaise ?_))
    show wpAny _ _ (Builtin.SmallTypes.nextOf (.ref i3) >>= fun _ => _) _ _ _
    refine wpAny_bind (wpAny_nextOf_list_end hh (((((t3.extBut s0.extBut D.n_i3_z).extBut q1.extBut D.n_i3_i1).extBut s1.extBut D.n_i3_TO).extBut q2.extBut D.n_i3_i2).extBut s2.extBut D.n_i3_TO) (((((k3.extBut s0.extBut D.n_l3_z).extBut q1.extBut D.n_l3_i1).extBut s1.extBut D.n_l3_TO).extBut q2.extBut D.n_l3_i2).extBut s2.extBut D.n_l3_TO) d3 fun y b r hb => ?_)
    obtain ⟨ob, hob, hcb⟩ := hb
    have zy : IsZip y z TI TO .ellipsis := r _ _ D.n_z_i3 (s2.extBut _ _ D.n_z_TO (q2.extBut _ _ D.n_z_i2 (s1.extBut _ _ D.n_z_TO (q1.extBut _ _ D.n_z_i1 z0))))
    have bz : b ≠ z := fun q => by subst q; rw [zy] at hob; cases hob; simp at hcb
    refine wpAny_setField_rec zy (by simp) fun y2 _ r2 => hE y2 b (fun c o cz cO c1 c2 c3 c4 e => r2.extBut _ _ cz (r _ _ c3 (s2.extBut _ _ cO (q2.extBut _ _ c2 (s1.extBut _ _ cO (q1.extBut _ _ c1 (s0.extBut _ _ cz e))))))) ⟨ob, r2.extBut _ _ bz hob, hcb⟩
  obtain ⟨x3, e3⟩ := Option.ne_none_iff_exists'.mp d3
  refine wpAny_bind (wpAny_bind (wpAny_onRaise ?_))
  show wpAny _ _ (Builtin.SmallTypes.nextOf (.ref i3) >>= fun _ => _) _ _ _
  refine wpAny_bind (wpAny_nextOf_list_item (((((t3.extBut s0.extBut D.n_i3_z).extBut q1.extBut D.n_i3_i1).extBut s1.extBut D.n_i3_TO).extBut q2.extBut D.n_i3_i2).extBut s2.extBut D.n_i3_TO) (((((k3.extBut s0.extBut D.n_l3_z).extBut q1.extBut D.n_l3_i1).extBut s1.extBut D.n_l3_TO).extBut q2.extBut D.n_l3_i2).extBut s2.extBut D.n_l3_TO) e3 fun p3 u3 q3 => wpAny_pure ?_)
  have w3 : IsT4 p3 TO x1 x2 v3 v4 := (q3.extBut _ _ D.n_TO_i3 o2)
  refine wpAny_bind (wpAny_seqItems w3 rfl (wpAny_bind (upd_T4 w3 fun g3 o3 s3 => ?_)))
  replace o3 : IsT4 g3 TO x1 x2 x3 v4 := o3
  refine wpAny_bind (wpAny_letGo (wpAny_pure ?_))
  by_cases d4 : a4[n]? = none
  · refine wpAny_bind (wpAny_bind (wpAny_onRaise ?_))
    show wpAny _ _ (Builtin.SmallTypes.nextOf (.ref i4) >>= fun _ => _) _ _ _
    refine wpAny_bind (wpAny_nextOf_list_end hh (((((((t4.extBut s0.extBut D.n_i4_z).extBut q1.extBut D.n_i4_i1).extBut s1.extBut D.n_i4_TO).extBut q2.extBut D.n_i4_i2).extBut s2.extBut D.n_i4_TO).extBut q3.extBut D.n_i4_i3).extBut s3.extBut D.n_i4_TO) (((((((k4.extBut s0.extBut D.n_l4_z).extBut q1.extBut D.n_l4_i1).extBut s1.extBut D.n_l4_TO).extBut q2.extBut D.n_l4_i2).extBut s2.extBut D.n_l4_TO).extBut q3.extBut D.n_l4_i3).extBut s3.extBut D.n_l4_TO) d4 fun y b r hb => ?_)
    obtain ⟨ob, hob, hcb⟩ := hb
    have zy : IsZip y z TI TO .ellipsis := r _ _ D.n_z_i4 (s3.extBut _ _ D.n_z_TO (q3.extBut _ _ D.n_z_i3 (s2.extBut _ _ D.n_z_TO (q2.extBut _ _ D.n_z_i2 (s1.extBut _ _ D.n_z_TO (q1.extBut _ _ D.n_z_i1 z0))))))
    have bz : b ≠ z := fun q => by subst q; rw [zy] at hob; cases hob; simp at hcb
    refine wpAny_setField_rec zy (by simp) fun y2 _ r2 => hE y2 b (fun c o cz cO c1 c2 c3 c4 e => r2.extBut _ _ cz (r _ _ c4 (s3.extBut _ _ cO (q3.extBut _ _ c3 (s2.extBut _ _ cO (q2.extBut _ _ c2 (s1.extBut _ _ cO (q1.extBut _ _ c1 (s0.extBut _ _ cz e))))))))) ⟨ob, r2.extBut _ _ bz hob, hcb⟩
  obtain ⟨x4, e4⟩ := Option.ne_none_iff_exists'.mp d4
  simp_all
theorem next4_item {z TI TO i1 i2 i3 i4 l1 l2 l3 l4 : Addr} {n : Nat} {a1 a2 a3 a4 : Array Value} {v1 v2 v3 v4 : Value} {x1 x2 x3 x4 : Value} {Q : Option Value → Shared → Prop} (D : Z4 z TI TO i1 i2 i3 i4 l1 l2 l3 l4) (hz : IsZip s.heap z TI TO .none) (hI : IsT4 s.heap TI (.ref i1) (.ref i2) (.ref i3) (.ref i4)) (hO : IsT4 s.heap TO v1 v2 v3 v4)
    (t1 : s.heap.IsListIter i1 l1 n) (t2 : s.heap.IsListIter i2 l2 n) (t3 : s.heap.IsListIter i3 l3 n) (t4 : s.heap.IsListIter i4 l4 n) (k1 : s.heap.IsList l1 a1) (k2 : s.heap.IsList l2 a2) (k3 : s.heap.IsList l3 a3) (k4 : s.heap.IsList l4 a4) (e1 : a1[n]? = some x1) (e2 : a2[n]? = some x2) (e3 : a3[n]? = some x3) (e4 : a4[n]? = some x4)
    (hQ : ∀ g, IsZip g z TI TO (rawInt s.heap.objs.size) → IsT4 g TO x1 x2 x3 x4 → g.IsListIter i1 l1 (n + 1) → g.IsListIter i2 l2 (n + 1) → g.IsListIter i3 l3 (n + 1) → g.IsListIter i4 l4 (n + 1) → IsT4 g s.heap.objs.size x1 x2 x3 x4 → g.objs.size = s.heap.objs.size + 1 → (∀ c o, c ≠ z → c ≠ TO → c ≠ i1 → c ≠ i2 → c ≠ i3 → c ≠ i4 → s.heap.get? c = some o → g.get? c = some o) → Q (some (.ref s.heap.objs.size)) { s with heap := g }) :
    wpAny (model prog w) A (pyNext (.ref z)) Q E s := by
  have ty : s.TypeIs (.ref z) "zip" := ⟨_, hz, rfl⟩
  unfold pyNext
  exact wpAny_bind (wpAny_attempt (wpAny_callSpecial?_slot (name := Str.ofString "__next__") ty F.slot_zip_next (wpAny_call_entry F.slot_zip_next ty F.entry_zip_next (zip4_item D hz hI hO t1 t2 t3 t4 k1 k2 k3 k4 e1 e2 e3 e4 fun g b1 b2 b3 b4 b5 b6 b7 b8 b9 => wpAny_pure (hQ g b1 b2 b3 b4 b5 b6 b7 b8 b9)) (F.args_zip_next_1 _))))
theorem next4_end {z TI TO i1 i2 i3 i4 l1 l2 l3 l4 : Addr} {n : Nat} {a1 a2 a3 a4 : Array Value} {v1 v2 v3 v4 : Value} {Q : Option Value → Shared → Prop} (hh : A.handled = none) (D : Z4 z TI TO i1 i2 i3 i4 l1 l2 l3 l4) (hz : IsZip s.heap z TI TO .none) (hI : IsT4 s.heap TI (.ref i1) (.ref i2) (.ref i3) (.ref i4)) (hO : IsT4 s.heap TO v1 v2 v3 v4)
    (t1 : s.heap.IsListIter i1 l1 n) (t2 : s.heap.IsListIter i2 l2 n) (t3 : s.heap.IsListIter i3 l3 n) (t4 : s.heap.IsListIter i4 l4 n) (k1 : s.heap.IsList l1 a1) (k2 : s.heap.IsList l2 a2) (k3 : s.heap.IsList l3 a3) (k4 : s.heap.IsList l4 a4) (he : a1[n]? = none ∨ a2[n]? = none ∨ a3[n]? = none ∨ a4[n]? = none)
    (hQ : ∀ g, (∀ c o, c ≠ z → c ≠ TO → c ≠ i1 → c ≠ i2 → c ≠ i3 → c ≠ i4 → s.heap.get? c = some o → g.get? c = some o) → Q none { s with heap := g }) : wpAny (model prog w) A (pyNext (.ref z)) Q E s := by
  have ty : s.TypeIs (.ref z) "zip" := ⟨_, hz, rfl⟩
  unfold pyNext
  refine wpAny_bind (wpAny_attempt (wpAny_callSpecial?_slot (name := Str.ofString "__next__") ty F.slot_zip_next (wpAny_call_entry F.slot_zip_next ty F.entry_zip_next (zip4_end hh D hz hI hO t1 t2 t3 t4 k1 k2 k3 k4 he fun g b hk hb => ?_) (F.args_zip_next_1 _))))
  obtain ⟨ob, hob, hcb⟩ := hb
  exact wpAny_bind (wpAny_isInstance (T := "StopIteration") (b := true) ⟨ob, hob, hcb⟩ isSubtype_stop (wpAny_pure (hQ g hk)))
end
end Tw

set_option Elab.async false
set_option linter.all false
set_option maxRecDepth 100000
set_option maxHeartbeats 4000000
namespace Tw
open PySem PySem.Spec PyProof.Rows L2
theorem tc_zip4 (a b c d : Value) : checkTypeCall "zip" ⟨[a, b, c, d], []⟩ = pure () := by kernel_rfl
theorem nc_zip4 (a b c d : Value) : checkBuiltinCall "zip.__new__" ⟨[.type "zip", a, b, c, d], []⟩ = pure () := by kernel_rfl
theorem oi_5 (o a b c d : Value) : argsOk "object.__init__" ⟨[o, a, b, c, d], []⟩ := by
  unfold argsOk; rw [signature?_of (id := "object.__init__") (n := ['_', '_', 't', 'i', 'n', 'i', '_', '_']) (o := ['t', 'c', 'e', 'j', 'b', 'o']) (by kernel_rfl) F.owner_object]; kernel_rfl
abbrev itO (l : Addr) : Obj := { cls := .type "list_iterator", data := .fields #[.ref l, .int 0 0] }
abbrev zh4 (h : Heap) (l1 l2 l3 l4 : Addr) : Heap := (((h.push (itO l1)).push (itO l2)).push (itO l3)).push (itO l4)
abbrev zt4 (h : Heap) (l1 l2 l3 l4 : Addr) : Heap := (zh4 h l1 l2 l3 l4).push { cls := .type "tuple", data := .seq #[.ref h.objs.size, .ref (h.push (itO l1)).objs.size, .ref ((h.push (itO l1)).push (itO l2)).objs.size, .ref (((h.push (itO l1)).push (itO l2)).push (itO l3)).objs.size] }
abbrev zo4 (h : Heap) (l1 l2 l3 l4 : Addr) : Heap := (zt4 h l1 l2 l3 l4).push { cls := .type "tuple", data := .seq #[.none, .none, .none, .none] }
abbrev zz4 (h : Heap) (l1 l2 l3 l4 : Addr) : Heap := (zo4 h l1 l2 l3 l4).push { cls := .type "zip", data := .fields #[.none, .bool false, .bool false, .ref (zh4 h l1 l2 l3 l4).objs.size, .ref (zt4 h l1 l2 l3 l4).objs.size] }
theorem meets_zip4 (l1 l2 l3 l4 : Addr) (a1 a2 a3 a4 : Array Value) :
    Meets (Builtin.«zip.__new__» ⟨[.type "zip", .ref l1, .ref l2, .ref l3, .ref l4], []⟩) (fun _ R s => s.heap.IsList l1 a1 ∧ s.heap.IsList l2 a2 ∧ s.heap.IsList l3 a3 ∧ s.heap.IsList l4 a4 ∧
      R (.ok (.ret (.ref (zo4 s.heap l1 l2 l3 l4).objs.size))) { s with heap := zz4 s.heap l1 l2 l3 l4 }) :=
  .of_wp fun prog w A R s h => by
    obtain ⟨hp, g, d, tk, os⟩ := s
    obtain ⟨k1, k2, k3, k4, h⟩ := h
    have hsub := sub_zip
    have L1 : Heap.IsList (Shared.heap ⟨hp, g, d, tk, os⟩) l1 a1 := k1
    have L2 : Heap.IsList (Shared.heap ⟨hp.push (itO l1), g, d, tk, os⟩) l2 a2 := Heap.IsList.push k2 _
    have L3 : Heap.IsList (Shared.heap ⟨(hp.push (itO l1)).push (itO l2), g, d, tk, os⟩) l3 a3 := Heap.IsList.push (Heap.IsList.push k3 _) _
    have L4 : Heap.IsList (Shared.heap ⟨((hp.push (itO l1)).push (itO l2)).push (itO l3), g, d, tk, os⟩) l4 a4 := Heap.IsList.push (Heap.IsList.push (Heap.IsList.push k4 _) _) _
    wp_walk using wpAny_pyIter_list L1, wpAny_pyIter_list L2, wpAny_pyIter_list L3, wpAny_pyIter_list L4
    exact ⟨_, rfl, h⟩
section
variable {prog : Program} {w : World} {A : Around} {E : Value → Shared → Prop} {s : Shared}
theorem call_zip4 {l1 l2 l3 l4 : Addr} {a1 a2 a3 a4 : Array Value} {Q : Value → Shared → Prop} (k1 : s.heap.IsList l1 a1) (k2 : s.heap.IsList l2 a2) (k3 : s.heap.IsList l3 a3) (k4 : s.heap.IsList l4 a4)
    (h : ∀ g n, n = s.heap.objs.size → IsZip g (n + 6) (n + 4) (n + 5) .none → IsT4 g (n + 4) (.ref n) (.ref (n + 1)) (.ref (n + 2)) (.ref (n + 3)) → IsT4 g (n + 5) .none .none .none .none →
      g.IsListIter n l1 0 → g.IsListIter (n + 1) l2 0 → g.IsListIter (n + 2) l3 0 → g.IsListIter (n + 3) l4 0 → (∀ c o, s.heap.get? c = some o → g.get? c = some o) → Q (.ref (n + 6)) { s with heap := g }) :
    wpAny (model prog w) A (call (.type "zip") [.ref l1, .ref l2, .ref l3, .ref l4]) Q E s := by
  refine callType_new F.called_zip (by decide) (tc_zip4 _ _ _ _) (nc_zip4 _ _ _ _) (fun obj => oi_5 obj _ _ _ _) F.entry_zip_new (meets_zip4 l1 l2 l3 l4 a1 a2 a3 a4) ⟨k1, k2, k3, k4, ?_⟩
  obtain ⟨n, hn⟩ : ∃ n, n = s.heap.objs.size := ⟨_, rfl⟩
  have b1 : (s.heap.push (itO l1)).objs.size = n + 1 := by rw [Heap.size_push, hn]
  have b2 : ((s.heap.push (itO l1)).push (itO l2)).objs.size = n + 2 := by rw [Heap.size_push, b1]
  have b3 : (((s.heap.push (itO l1)).push (itO l2)).push (itO l3)).objs.size = n + 3 := by rw [Heap.size_push, b2]
  have b4 : (zh4 s.heap l1 l2 l3 l4).objs.size = n + 4 := by rw [Heap.size_push, b3]
  have b5 : (zt4 s.heap l1 l2 l3 l4).objs.size = n + 5 := by rw [Heap.size_push, b4]
  have b6 : (zo4 s.heap l1 l2 l3 l4).objs.size = n + 6 := by rw [Heap.size_push, b5]
  have p : ∀ {h : Heap} {o u : Obj} {c : Addr}, h.get? c = some u → (h.push o).get? c = some u := fun e => Heap.get?_push_of_some _ e
  have g6 : (zz4 s.heap l1 l2 l3 l4).get? (zo4 s.heap l1 l2 l3 l4).objs.size = some _ := Heap.get?_push_size _ rfl
  have g5 : (zz4 s.heap l1 l2 l3 l4).get? (zt4 s.heap l1 l2 l3 l4).objs.size = some _ := p (Heap.get?_push_size _ rfl)
  have g4 : (zz4 s.heap l1 l2 l3 l4).get? (zh4 s.heap l1 l2 l3 l4).objs.size = some _ := p (p (Heap.get?_push_size _ rfl))
  have g3 : (zz4 s.heap l1 l2 l3 l4).get? (((s.heap.push (itO l1)).push (itO l2)).push (itO l3)).objs.size = some _ := p (p (p (Heap.get?_push_size _ rfl)))
  have g2 : (zz4 s.heap l1 l2 l3 l4).get? ((s.heap.push (itO l1)).push (itO l2)).objs.size = some _ := p (p (p (p (Heap.get?_push_size _ rfl))))
  have g1 : (zz4 s.heap l1 l2 l3 l4).get? (s.heap.push (itO l1)).objs.size = some _ := p (p (p (p (p (Heap.get?_push_size _ rfl)))))
  have g0 : (zz4 s.heap l1 l2 l3 l4).get? s.heap.objs.size = some _ := p (p (p (p (p (p (Heap.get?_push_size _ rfl))))))
  rw [b4, b5, b6] at g6
  rw [b5] at g5
  rw [b1, b2, b3, b4, ← hn] at g4
  rw [b3] at g3
  rw [b2] at g2
  rw [b1] at g1
  rw [← hn] at g0
  show _ ∧ _
  rw [b6]
  exact ⟨⟨_, g6, rfl⟩, h _ n hn g6 g4 g5 ⟨_, g0, rfl, rfl⟩ ⟨_, g1, rfl, rfl⟩ ⟨_, g2, rfl, rfl⟩ ⟨_, g3, rfl, rfl⟩ fun c o e => p (p (p (p (p (p (p e))))))⟩
end
end Tw

set_option Elab.async false
set_option linter.all false
set_option maxRecDepth 100000
set_option maxHeartbeats 4000000
namespace Tw
open PySem PySem.Spec PyProof.Rows L2
/-- four lists as they stand at each turn, the items in new tuples -/
def It4 (K : PySem.W.Frag) (l1 l2 l3 l4 : Addr) : It :=
  ⟨fun i H => ∃ (m1 m2 m3 m4 : List V) (x1 x2 x3 x4 : V), (SqL K H l1 m1 ∧ m1[i]? = some x1) ∧ (SqL K H l2 m2 ∧ m2[i]? = some x2) ∧ (SqL K H l3 m3 ∧ m3[i]? = some x3) ∧ (SqL K H l4 m4 ∧ m4[i]? = some x4),
    fun i H v H' => ∃ T x1 x2 x3 x4, v = .ref T ∧ H T = none ∧ H' = upd H T (.tup [x1, x2, x3, x4]) ∧ (∀ m, SqL K H l1 m → m[i]? = some x1) ∧ (∀ m, SqL K H l2 m → m[i]? = some x2) ∧ (∀ m, SqL K H l3 m → m[i]? = some x3) ∧ ∀ m, SqL K H l4 m → m[i]? = some x4,
    fun i H => ∃ m1 m2 m3 m4 : List V, SqL K H l1 m1 ∧ SqL K H l2 m2 ∧ SqL K H l3 m3 ∧ SqL K H l4 m4 ∧ (m1.length ≤ i ∨ m2.length ≤ i ∨ m3.length ≤ i ∨ m4.length ≤ i)⟩
theorem in7 {c z TI TO i1 i2 i3 i4 : Addr} (h : c ∈ [z, TI, TO, i1, i2, i3, i4]) : c = z ∨ c = TI ∨ c = TO ∨ c = i1 ∨ c = i2 ∨ c = i3 ∨ c = i4 := by simpa using h
theorem turn_zip4 {P : Program} {w : World} {K : PySem.W.Frag} {elts : List Expr} {kk : Nat} {tpos : Pos} {z TI TO i1 i2 i3 i4 l1 l2 l3 l4 : Addr} (D : Z4 z TI TO i1 i2 i3 i4 l1 l2 l3 l4) :
    Turn P w K (.Tuple elts kk tpos) (It4 K l1 l2 l3 l4) [z, TI, TO, i1, i2, i3, i4] z (fun i h => IsZip h z TI TO .none ∧ IsT4 h TI (.ref i1) (.ref i2) (.ref i3) (.ref i4) ∧ (∃ a b c d, IsT4 h TO a b c d) ∧ h.IsListIter i1 l1 i ∧ h.IsListIter i2 l2 i ∧ h.IsListIter i3 l3 i ∧ h.IsListIter i4 l4 i) where
  mem := by simp
  obj := fun i h st c hc => by
    obtain ⟨hz, hI, ⟨a, b, c', d, hO⟩, ⟨o1, e1, _, d1⟩, ⟨o2, e2, _, d2⟩, ⟨o3, e3, _, d3⟩, ⟨o4, e4, _, d4⟩⟩ := st
    rcases in7 hc with q | q | q | q | q | q | q <;> rw [q]
    · exact ⟨_, hz, fun v q => nomatch q⟩
    · exact ⟨_, hI, fun v q => nomatch q⟩
    · exact ⟨_, hO, fun v q => nomatch q⟩
    · exact ⟨o1, e1, fun v q => by rw [d1] at q; cases q⟩
    · exact ⟨o2, e2, fun v q => by rw [d2] at q; cases q⟩
    · exact ⟨o3, e3, fun v q => by rw [d3] at q; cases q⟩
    · exact ⟨o4, e4, fun v q => by rw [d4] at q; cases q⟩
  keep := fun i h h' st k => by
    obtain ⟨hz, hI, ⟨a, b, c, d, hO⟩, t1, t2, t3, t4⟩ := st
    exact ⟨k z (by simp) _ hz, k TI (by simp) _ hI, ⟨a, b, c, d, k TO (by simp) _ hO⟩, t1.at fun o q => k i1 (by simp) o q, t2.at fun o q => k i2 (by simp) o q, t3.at fun o q => k i3 (by simp) o q, t4.at fun o q => k i4 (by simp) o q⟩
  item := by
    intro X hP hw hK hc i pins s σ H E I hf st hg
    subst hP hw hK
    obtain ⟨hz, hI, ⟨a, b, c, d, hO⟩, t1, t2, t3, t4⟩ := st
    obtain ⟨m1, m2, m3, m4, x1, x2, x3, x4, ⟨q1, e1⟩, ⟨q2, e2⟩, ⟨q3, e3⟩, ⟨q4, e4⟩⟩ := hg
    obtain ⟨y1, r1, p1, _⟩ := I.list q1
    obtain ⟨y2, r2, p2, _⟩ := I.list q2
    obtain ⟨y3, r3, p3, _⟩ := I.list q3
    obtain ⟨y4, r4, p4, _⟩ := I.list q4
    obtain ⟨u1, h1, s1⟩ := r1.get e1
    obtain ⟨u2, h2, s2⟩ := r2.get e2
    obtain ⟨u3, h3, s3⟩ := r3.get e3
    obtain ⟨u4, h4, s4⟩ := r4.get e4
    have zl : z < s.heap.objs.size := Heap.lt_size hz
    refine next4_item D hz hI hO t1 t2 t3 t4 p1.isList p2.isList p3.isList p4.isList (x1 := u1) (x2 := u2) (x3 := u3) (x4 := u4) (by simpa using h1) (by simpa using h2) (by simpa using h3) (by simpa using h4) fun g gz gO g1 g2 g3 g4 gT gs gk => ?_
    refine ⟨_, rfl, wpAny_letOwnedTupleGo_zip (s := { s with heap := g }) gz fun f fz sb => ?_⟩
    have fT : f.get? s.heap.objs.size = some { cls := .type "tuple", data := .seq #[u1, u2, u3, u4] } := sb.extBut _ _ (Nat.ne_of_gt zl) gT
    have new : ObjOk X.prog X.w (upd H s.heap.objs.size (.tup [x1, x2, x3, x4])) f s.heap.objs.size (.tup [x1, x2, x3, x4]) :=
      ⟨by show 4 ≤ sizeLine; decide, [u1, u2, u3, u4], .cons s1 (.cons s2 (.cons s3 (.cons s4 .nil))), ⟨_, fT, rfl, _, rfl⟩⟩
    have out : ∀ {c : Addr}, c ∉ [z, TI, TO, i1, i2, i3, i4] → c ≠ z ∧ c ≠ TO ∧ c ≠ i1 ∧ c ≠ i2 ∧ c ≠ i3 ∧ c ≠ i4 := fun h => ⟨fun q => h (by simp [q]), fun q => h (by simp [q]), fun q => h (by simp [q]), fun q => h (by simp [q]), fun q => h (by simp [q]), fun q => h (by simp [q])⟩
    have I1 : Inv X pins σ (upd H s.heap.objs.size (.tup [x1, x2, x3, x4])) { s with heap := f } :=
      I.turnedNew (t' := s.toks) (ch := [z, TI, TO, i1, i2, i3, i4]) (fun c o hb q => let ⟨n0, n1, n2, n3, n4, n5⟩ := out hb; sb.extBut _ _ n0 (gk c o n0 n1 n2 n3 n4 n5 q)) hf (Nat.le_refl _) new
    refine ⟨.ref s.heap.objs.size, _, I1, rfl, ⟨_, x1, x2, x3, x4, rfl, I.hok.fresh (Nat.le_refl _), rfl, fun m hm => by rw [I.list_inj hm q1]; exact e1, fun m hm => by rw [I.list_inj hm q2]; exact e2, fun m hm => by rw [I.list_inj hm q3]; exact e3, fun m hm => by rw [I.list_inj hm q4]; exact e4⟩,
      ⟨fz, ?_, ⟨u1, u2, u3, u4, ?_⟩, ?_, ?_, ?_, ?_⟩, fun c hcm => ?_⟩
    · exact sb.extBut _ _ D.n_TI_z (gk _ _ D.n_TI_z D.n_TI_TO D.n_TI_i1 D.n_TI_i2 D.n_TI_i3 D.n_TI_i4 hI)
    · exact sb.extBut _ _ D.n_TO_z gO
    · exact g1.at fun o q => sb.extBut _ _ D.n_i1_z q
    · exact g2.at fun o q => sb.extBut _ _ D.n_i2_z q
    · exact g3.at fun o q => sb.extBut _ _ D.n_i3_z q
    · exact g4.at fun o q => sb.extBut _ _ D.n_i4_z q
    · have hlt : c < s.heap.objs.size := by
        rcases in7 hcm with q | q | q | q | q | q | q <;> rw [q]
        · exact zl
        · exact Heap.lt_size hI
        · exact Heap.lt_size hO
        · obtain ⟨_, e, _⟩ := t1; exact Heap.lt_size e
        · obtain ⟨_, e, _⟩ := t2; exact Heap.lt_size e
        · obtain ⟨_, e, _⟩ := t3; exact Heap.lt_size e
        · obtain ⟨_, e, _⟩ := t4; exact Heap.lt_size e
      rw [upd_ne (Nat.ne_of_lt hlt)]
      exact (hf c hcm).1
  done := by
    intro X hP hw hK hc i pins s σ H E I hf st hg
    subst hP hw hK
    obtain ⟨hz, hI, ⟨a, b, c, d, hO⟩, t1, t2, t3, t4⟩ := st
    obtain ⟨m1, m2, m3, m4, q1, q2, q3, q4, he⟩ := hg
    obtain ⟨y1, r1, p1, _⟩ := I.list q1
    obtain ⟨y2, r2, p2, _⟩ := I.list q2
    obtain ⟨y3, r3, p3, _⟩ := I.list q3
    obtain ⟨y4, r4, p4, _⟩ := I.list q4
    have l1' := r1.length
    have l2' := r2.length
    have l3' := r3.length
    have l4' := r4.length
    refine next4_end (I.ok.hd hc) D hz hI hO t1 t2 t3 t4 p1.isList p2.isList p3.isList p4.isList ?_ fun g gk => ⟨rfl, I.turnedL (t' := s.toks) (ch := [z, TI, TO, i1, i2, i3, i4]) (fun c o hb q => gk c o (fun y => hb (by simp [y])) (fun y => hb (by simp [y])) (fun y => hb (by simp [y])) (fun y => hb (by simp [y])) (fun y => hb (by simp [y])) (fun y => hb (by simp [y])) q) hf⟩
    rcases he with q | q | q | q
    · exact .inl (by simp; omega)
    · exact .inr (.inl (by simp; omega))
    · exact .inr (.inr (.inl (by simp; omega)))
    · exact .inr (.inr (.inr (by simp; omega)))
  self := fun A i s Q E st h => wpAny_pyIter_zip st.1 h
end Tw

set_option Elab.async false
set_option linter.all false
set_option maxRecDepth 100000
set_option maxHeartbeats 4000000
namespace Tw
open PySem PySem.Spec PyProof.Rows L2
def iZip4 (K : PySem.W.Frag) (ta : TA) : TI := fun σ H R => ta σ H fun vs H1 => ∃ l1 l2 l3 l4 m1 m2 m3 m4, vs = [.ref l1, .ref l2, .ref l3, .ref l4] ∧ SqL K H1 l1 m1 ∧ SqL K H1 l2 m2 ∧ SqL K H1 l3 m3 ∧ SqL K H1 l4 m4 ∧ R (It4 K l1 l2 l3 l4) H1
theorem z4_new {n l1 l2 l3 l4 : Nat} (h1 : l1 < n) (h2 : l2 < n) (h3 : l3 < n) (h4 : l4 < n) : Z4 (n + 6) (n + 4) (n + 5) n (n + 1) (n + 2) (n + 3) l1 l2 l3 l4 := by
  constructor <;> intro q <;> first | omega | (have q' : (_ : Nat) = _ := q; omega)
theorem pi_zip4 {X : Cx} {a b c d : Expr} {ta : TA} {p pos tpos : Pos} {elts : List Expr} {kk : Nat} (hg : Gl X "zip") (hm : X.mg "zip" = none) (ha : PA X [a, b, c, d] ta)
    (hs : starEach [a, b, c, d] X.env = (false, eval a X.env) :: starEach [b, c, d] X.env := by rfl) (hpl : (backTo pos (starEach [b, c, d] X.env)).any (·.1) = false := by rfl) :
    PI X (.Tuple elts kk tpos) (.Call (.Name "zip" p) [a, b, c, d] [] pos) (iZip4 X.K ta) := by
  refine ⟨fun pins s σ H R I h => Call_ (ld_blt I hg hm boot_zip (callWith_type1 (thn (ha.run pos pins s σ H _ I h) fun us s1 ⟨vs, H1, I1, r1, q1⟩ => ?_) hs hpl))⟩
  obtain ⟨l1, l2, l3, l4, m1, m2, m3, m4, rfl, q1, q2, q3, q4, q⟩ := q1
  cases r1 with
  | cons c1 r1 =>
    cases r1 with
    | cons c2 r1 =>
      cases r1 with
      | cons c3 r1 =>
        cases r1 with
        | cons c4 r1 =>
          cases r1; cases c1; cases c2; cases c3; cases c4
          obtain ⟨_, _, p1, _⟩ := I1.list q1
          obtain ⟨_, _, p2, _⟩ := I1.list q2
          obtain ⟨_, _, p3, _⟩ := I1.list q3
          obtain ⟨_, _, p4, _⟩ := I1.list q4
          refine call_zip4 p1.isList p2.isList p3.isList p4.isList fun g n hn gz gI gO g1 g2 g3 g4 gk => wpAny_pyIter_zip gz ?_
          have J : Inv X pins σ H1 { s1 with heap := g } := I1.kept (t' := s1.toks) gk
          have D : Z4 (n + 6) (n + 4) (n + 5) n (n + 1) (n + 2) (n + 3) l1 l2 l3 l4 := z4_new (by rw [hn]; exact p1.lt) (by rw [hn]; exact p2.lt) (by rw [hn]; exact p3.lt) (by rw [hn]; exact p4.lt)
          refine ⟨n + 6, [n + 6, n + 4, n + 5, n, n + 1, n + 2, n + 3], _, _, H1, rfl, J, turn_zip4 D, ⟨gz, gI, ⟨_, _, _, _, gO⟩, g1, g2, g3, g4⟩, fun k hk => ?_, q⟩
          have hle : s1.heap.objs.size ≤ k := by
            rw [← hn]
            rcases in7 hk with e | e | e | e | e | e | e <;> rw [e] <;> first | exact Nat.le_add_right _ _ | exact Nat.le_refl _
          exact I1.fpOk hle (I1.hok.fresh hle)
/-! ### by data -/
def zip4D : List D → List D → List D → List D → List D
  | a :: l, b :: m, c :: n, d :: o => .tup [a, b, c, d] :: zip4D l m n o
  | _, _, _, _ => []
theorem zip4D_get : ∀ (l m n o : List D) (i : Nat), (zip4D l m n o)[i]? = match l[i]?, m[i]?, n[i]?, o[i]? with
    | some a, some b, some c, some d => some (.tup [a, b, c, d])
    | _, _, _, _ => none
  | a :: l, b :: m, c :: n, d :: o, 0 => by simp [zip4D]
  | a :: l, b :: m, c :: n, d :: o, i + 1 => by
    simp only [zip4D, List.getElem?_cons_succ]
    exact zip4D_get l m n o i
  | [], m, n, o, i => by simp [zip4D]
  | a :: l, [], n, o, i => by
    simp only [zip4D, List.getElem?_nil]
    split <;> simp_all
  | a :: l, b :: m, [], o, i => by
    simp only [zip4D, List.getElem?_nil]
    split <;> simp_all
  | a :: l, b :: m, c :: n, [], i => by
    simp only [zip4D, List.getElem?_nil]
    split <;> simp_all
theorem zip4D_len : ∀ (l m n o : List D), (zip4D l m n o).length = min (min l.length m.length) (min n.length o.length)
  | a :: l, b :: m, c :: n, d :: o => by simp only [zip4D, List.length_cons, zip4D_len l m n o]; omega
  | [], m, n, o => by simp [zip4D]
  | a :: l, [], n, o => by simp [zip4D]
  | a :: l, b :: m, [], o => by simp [zip4D]
  | a :: l, b :: m, c :: n, [] => by simp [zip4D]
def chk4 (a b c d : D) (l m n o : List D) (W : Wd) : Prop := rdL W a = some l ∧ rdL W b = some m ∧ rdL W c = some n ∧ rdL W d = some o
def bZip4 (ds : List D) : M Items := fun S P _ => match ds with
  | [a, b, c, d] => ∃ l m n o, chk4 a b c d l m n o S.W ∧ P (zip4D l m n o, chk4 a b c d l m n o) S
  | _ => False
theorem itOk_zip4 {K : PySem.W.Frag} {B : Hp} {φ : List Addr} {a b c d : D} {l1 l2 l3 l4 : Addr} {l m n o : List D} (r1 : Rep K B φ a (.ref l1)) (r2 : Rep K B φ b (.ref l2)) (r3 : Rep K B φ c (.ref l3)) (r4 : Rep K B φ d (.ref l4)) :
    ItOk K B φ (zip4D l m n o) (chk4 a b c d l m n o) (It4 K l1 l2 l3 l4) := by
  have rd : ∀ {B1 φ1 W H} {d : D} {a : Addr} {l : List D}, Rep K B φ d (.ref a) → Ext B φ B1 φ1 → RelW K B1 φ1 W H → rdL W d = some l → ∃ xs, SqL K H a xs ∧ Reps K B1 φ1 l xs := fun {B1 φ1 W H d a l} r e1 R c => by
    obtain ⟨p, xs, e, h1, h2⟩ := rdL_ok R (r.mono e1 _ _) c
    cases e
    exact ⟨xs, h1, h2⟩
  refine ⟨fun i B1 φ1 W H e1 R ck hi => ?_, fun i B1 φ1 W H x H' e1 R ck y d' hd' => ?_, fun i B1 φ1 W H e1 R ck hi => ?_⟩
  · obtain ⟨x1, s1, t1⟩ := rd r1 e1 R ck.1
    obtain ⟨x2, s2, t2⟩ := rd r2 e1 R ck.2.1
    obtain ⟨x3, s3, t3⟩ := rd r3 e1 R ck.2.2.1
    obtain ⟨x4, s4, t4⟩ := rd r4 e1 R ck.2.2.2
    rw [zip4D_len] at hi
    exact ⟨x1, x2, x3, x4, x1[i]'(by rw [t1.length]; omega), x2[i]'(by rw [t2.length]; omega), x3[i]'(by rw [t3.length]; omega), x4[i]'(by rw [t4.length]; omega), ⟨s1, List.getElem?_eq_getElem _⟩, ⟨s2, List.getElem?_eq_getElem _⟩, ⟨s3, List.getElem?_eq_getElem _⟩, ⟨s4, List.getElem?_eq_getElem _⟩⟩
  · obtain ⟨x1, s1, t1⟩ := rd r1 e1 R ck.1
    obtain ⟨x2, s2, t2⟩ := rd r2 e1 R ck.2.1
    obtain ⟨x3, s3, t3⟩ := rd r3 e1 R ck.2.2.1
    obtain ⟨x4, s4, t4⟩ := rd r4 e1 R ck.2.2.2
    obtain ⟨T, w1, w2, w3, w4, rfl, hT, rfl, y1, y2, y3, y4⟩ := y
    rw [zip4D_get] at hd'
    split at hd'
    · rename_i da db dc dd ea eb ec ed
      cases hd'
      obtain ⟨v1, h1, k1⟩ := t1.get ea
      obtain ⟨v2, h2, k2⟩ := t2.get eb
      obtain ⟨v3, h3, k3⟩ := t3.get ec
      obtain ⟨v4, h4, k4⟩ := t4.get ed
      rw [y1 x1 s1] at h1; cases h1
      rw [y2 x2 s2] at h2; cases h2
      rw [y3 x3 s3] at h3; cases h3
      rw [y4 x4 s4] at h4; cases h4
      obtain ⟨w, e⟩ := R.frz (o := .tup [w1, w2, w3, w4]) hT
      refine ⟨_, e, w, ?_⟩
      simp only [Rep]
      exact ⟨T, _, rfl, SqT.of upd_same, Reps.cons (k1.mono e _ _) (Reps.cons (k2.mono e _ _) (Reps.cons (k3.mono e _ _) (Reps.cons (k4.mono e _ _) Reps.nil)))⟩
    · cases hd'
  · obtain ⟨x1, s1, t1⟩ := rd r1 e1 R ck.1
    obtain ⟨x2, s2, t2⟩ := rd r2 e1 R ck.2.1
    obtain ⟨x3, s3, t3⟩ := rd r3 e1 R ck.2.2.1
    obtain ⟨x4, s4, t4⟩ := rd r4 e1 R ck.2.2.2
    rw [zip4D_len] at hi
    refine ⟨x1, x2, x3, x4, s1, s2, s3, s4, ?_⟩
    rw [t1.length, t2.length, t3.length, t4.length]
    omega
section
variable {X : Cx} {WE : WX} {pos : Pos}
theorem di_zip4 {a b c d : Expr} {ga : M (List D)} {p tpos : Pos} {elts : List Expr} {kk : Nat} (hm : X.mg "zip" = none) (ha : PA X [a, b, c, d] (tA X.K WE ga)) (hg : Gl X "zip" := by rfl)
    (hs : starEach [a, b, c, d] X.env = (false, eval a X.env) :: starEach [b, c, d] X.env := by rfl) (hpl : (backTo pos (starEach [b, c, d] X.env)).any (·.1) = false := by rfl) : PI X (.Tuple elts kk tpos) (.Call (.Name "zip" p) [a, b, c, d] [] pos) (tIt X.K WE (M.bind ga bZip4)) :=
  PI.weak (pi_zip4 hg hm ha hs hpl) fun σ H Q h => by
    obtain ⟨B, φ, S, R, run⟩ := h
    refine ⟨B, φ, S, R, run.bind.imp ?_⟩
    rintro xs H1 ⟨ds, B1, φ1, S1, e1, R1, r1, P, Xx, h1, h2, h3⟩
    unfold bZip4 at h1
    split at h1
    · rename_i a b c d
      obtain ⟨v1, r, rfl, k1, r⟩ := r1.cons_inv
      obtain ⟨v2, r, rfl, k2, r⟩ := r.cons_inv
      obtain ⟨v3, v4, rfl, k3, k4⟩ := two_inv r
      obtain ⟨l, m, n, o, ck, h1⟩ := h1
      obtain ⟨l1, x1, rfl, s1, _⟩ := rdL_ok R1.w k1 ck.1
      obtain ⟨l2, x2, rfl, s2, _⟩ := rdL_ok R1.w k2 ck.2.1
      obtain ⟨l3, x3, rfl, s3, _⟩ := rdL_ok R1.w k3 ck.2.2.1
      obtain ⟨l4, x4, rfl, s4, _⟩ := rdL_ok R1.w k4 ck.2.2.2
      exact ⟨l1, l2, l3, l4, x1, x2, x3, x4, rfl, s1, s2, s3, s4, h2 _ _ _ _ _ _ h1 (Ext.refl _ _) R1 (itOk_zip4 k1 k2 k3 k4)⟩
    · exact h1.elim
end
end Tw

set_option Elab.async false
set_option linter.all false
set_option maxRecDepth 100000
set_option maxHeartbeats 4000000
namespace Tw
open PySem PySem.Spec PyProof.Rows L2
/-! ### two lines laid together -/
def two (a b : Option Str) : Option Tl := if a = none ∧ b = none then none else some [a, b]
def f2 (l1 l2 : List LRow) (m : Int) : Option Tl := two (wAt l1 m) (wAt l2 m)
abbrev Z5 := Int × Option Int × Option Str × Option Str
def z5D (p : Z5) : D := .tup [.int p.1, oD p.2.1, oS p.2.2.1, oS p.2.2.2]
def zipB (l1 l2 : List LRow) : List Int → List Z5
  | [] => []
  | x :: l => (x, l.head?, wAt l1 x, wAt l2 x) :: zipB l1 l2 l
def z5R (p : Z5) : Option LRow := (two p.2.2.1 p.2.2.2).map fun t => (p.1, p.2.1, t)
theorem zipB_zip (l1 l2 : List LRow) : ∀ bs : List Int, zip4D (bs.map D.int) ((bs.drop 1).map D.int ++ [D.non]) ((bs.map (wAt l1)).map oS) ((bs.map (wAt l2)).map oS) = (zipB l1 l2 bs).map z5D
  | [] => by simp [zip4D, zipB]
  | [x] => by simp [zip4D, zipB, z5D, oD]
  | x :: y :: l => by
    have := zipB_zip l1 l2 (y :: l)
    simp only [List.map_cons, List.drop_succ_cons, List.drop_zero, List.cons_append, zip4D, zipB, List.head?_cons, z5D, oD] at this ⊢
    rw [this]
theorem zipB_segs (l1 l2 : List LRow) : ∀ bs : List Int, segs (f2 l1 l2) bs = (zipB l1 l2 bs).filterMap z5R
  | [] => rfl
  | x :: l => by
    rw [segs, zipB, List.filterMap_cons, zipB_segs l1 l2 l]
    unfold z5R f2
    simp only
    cases two (wAt l1 x) (wAt l2 x) <;> rfl
theorem zipB_len (l1 l2 : List LRow) : ∀ bs : List Int, (zipB l1 l2 bs).length = bs.length
  | [] => rfl
  | x :: l => by simp [zipB, zipB_len l1 l2 l]
theorem Prp.begins : ∀ {l : List LRow} {lo : Int} {r : LRow}, Prp lo l → r ∈ l → lo ≤ r.1 ∧ ∀ e, r.2.1 = some e → r.1 < e
  | [], _, _, _, h => by cases h
  | (b, none, t) :: l, lo, r, c, h => by
    have : l = [] := c.2
    subst this
    simp at h
    subst h
    exact ⟨c.1, fun e z => nomatch z⟩
  | (b, some e, t) :: l, lo, r, c, h => by
    rcases List.mem_cons.mp h with rfl | h
    · exact ⟨c.1, fun e z => by cases z; exact c.2.1⟩
    · have := Prp.begins c.2.2 h
      have h1 := c.1
      have h2 := c.2.1
      exact ⟨by omega, this.2⟩
theorem f2_steps {l1 l2 : List LRow} {ys : List Int} (h1 : ∀ r ∈ l1, r.1 ∈ ys ∧ ∀ e, r.2.1 = some e → e ∈ ys) (h2 : ∀ r ∈ l2, r.1 ∈ ys ∧ ∀ e, r.2.1 = some e → e ∈ ys) : Steps ys (f2 l1 l2) := by
  obtain ⟨a1, b1⟩ := steps_of (g := fun o => tl (worthOf o)) rfl h1
  obtain ⟨a2, b2⟩ := steps_of (g := fun o => tl (worthOf o)) rfl h2
  have e : ∀ {l : List LRow} {m x : Int}, tl (worthOf (atL l m)) = tl (worthOf (atL l x)) → wAt l m = wAt l x := fun {l m x} h => by
    have := congrArg worthOf h
    rw [worthOf_tl, worthOf_tl] at this
    exact this
  have e0 : ∀ {l : List LRow} {m : Int}, tl (worthOf (atL l m)) = none → wAt l m = none := fun {l m} h => by
    have := congrArg worthOf h
    rw [worthOf_tl] at this
    exact this
  constructor
  · intro m hm
    rw [f2, e0 (a1 m hm), e0 (a2 m hm)]
    rfl
  · intro x hx m hxm hn
    rw [f2, f2, e (b1 x hx m hxm hn), e (b2 x hx m hxm hn)]
/-! ### places behind a world -/
theorem get_beh (W l : Wd) (k : Nat) : (W ++ l)[W.length + k]? = l[k]? := by rw [List.getElem?_append_right (by omega)]; congr 1; omega
theorem get_beh0 (W l : Wd) : (W ++ l)[W.length]? = l[0]? := get_beh W l 0
theorem set_beh (W l : Wd) (k : Nat) (o : O) : (W ++ l).set (W.length + k) o = W ++ l.set k o := by rw [List.set_append_right _ _ (by omega)]; congr 2; omega
theorem set_beh0 (W l : Wd) (o : O) : (W ++ l).set W.length o = W ++ l.set 0 o := set_beh W l 0 o
theorem app3 (W : Wd) (a b c : O) : W ++ [a] ++ [b] ++ [c] = W ++ [a, b, c] := by simp
theorem app_cons (W : Wd) (a : O) (g : Wd) : W ++ [a] ++ g = W ++ a :: g := by simp
theorem min63 (ns : List Int) : ∃ m : Nat, (if (ns.length : Int) < 63 then (ns.length : Int) else 63) = (m : Int) ∧ m ≤ 63 ∧ m ≤ ns.length := by
  split
  · exact ⟨ns.length, rfl, by omega, by omega⟩
  · exact ⟨63, rfl, by omega, by omega⟩
theorem atL_rev : ∀ {l : List LRow} {lo m : Int}, Prp lo l → atL l.reverse m = atL l m
  | [], _, _, _ => rfl
  | (b, none, t) :: l, _, m, h => by
    have : l = [] := h.2
    subst this
    rfl
  | (b, some e, t) :: l, _, m, h => by
    rw [List.reverse_cons, atL_app, atL_rev h.2.2, atL]
    by_cases c : inSt (rst (b, some e, t)) m = true
    · rw [if_pos c, atL, if_pos c]
      rw [rst, inSt_some] at c
      simp at c
      rw [atL_lo h.2.2 c.2]
    · rw [if_neg c, atL]
      conv => rhs; rw [atL, if_neg c]
      cases atL l m <;> rfl
theorem wAt_rev {l : List LRow} {lo m : Int} (h : Prp lo l) : wAt l.reverse m = wAt l m := by rw [wAt, wAt, atL_rev h]
/-- rows with two worths -/
def Dbl (l : List LRow) : Prop := ∀ r ∈ l, ∃ a b, r.2.2 = [a, b]
theorem Dbl.join {found : List LRow} {r : LRow} (h : Dbl found) (hr : ∃ a b, r.2.2 = [a, b]) : Dbl (joinStep found r) := by
  rcases snoc_cases found with rfl | ⟨p, c, rfl⟩
  · intro q hq
    simp [joinStep] at hq
    subst hq; exact hr
  · rw [joinStep_snoc]
    split
    · intro q hq
      rcases List.mem_append.mp hq with w | w
      · exact h q (by simp [w])
      · simp at w; subst w; exact hr
    · intro q hq
      simp only [List.mem_append, List.mem_cons, List.not_mem_nil, or_false] at hq
      rcases hq with w | rfl | rfl
      · exact h q (by simp [w])
      · exact h q (by simp)
      · exact hr
/-! ### a comprehension whose turns change nothing, by what its items stand for -/
theorem lcL_map {α : Type} {σ0 : List (Option D)} {own : List Nat} {chk : Wd → Prop} {g : MG} {t : M Bool} {e : M D} {k : Wd → Prop} {W0 : Wd} (enc : α → D) (r : α → Option D) : ∀ {xs : List α} {acc : List D}, (∀ x ∈ xs, ∀ acc k, k (r x) (W0 ++ [.lst acc]) → lcTurn σ0 own g t e (enc x) (W0 ++ [.lst acc]) k) →
    (∀ acc, chk (W0 ++ [.lst acc])) → acc.length + xs.length ≤ 1000000 → k (W0 ++ [.lst (acc ++ xs.filterMap r)]) → lcL σ0 own W0.length chk g t e (xs.map enc) (W0 ++ [.lst acc]) k
  | [], acc, hT, hc, hl, hk => by simpa [lcL] using hk
  | x :: xs, acc, hT, hc, hl, hk => by
    rw [List.map_cons]
    refine lcL_turn (hT x List.mem_cons_self acc _ ?_)
    cases e1 : r x with
    | none =>
      simp only
      refine ⟨hc acc, lcL_map enc r (fun y hy => hT y (List.mem_cons_of_mem _ hy)) hc (by simp at hl; omega) ?_⟩
      simpa [List.filterMap_cons, e1] using hk
    | some d =>
      simp only [Tw.get_own]
      simp only [List.length_cons] at hl
      have e2 : (W0 ++ [O.lst acc]).set W0.length (.lst (acc ++ [d])) = W0 ++ [.lst (acc ++ [d])] := by simp
      rw [e2]
      refine ⟨sz_lt (by omega), hc _, lcL_map enc r (fun y hy => hT y (List.mem_cons_of_mem _ hy)) hc (by simp; omega) ?_⟩
      simpa [List.filterMap_cons, e1] using hk
theorem lcL_tot {n : Nat} {α : Type} {σ0 : List (Option D)} {own : List Nat} {chk : Wd → Prop} {g : MG} {t : M Bool} {e : M D} {k : Wd → Prop} {W0 : Wd} (enc : α → D) (r : α → D) {xs : List α} (h : ∀ x ∈ xs, ∀ acc k, k (some (r x)) (W0 ++ [.lst acc]) → lcTurn σ0 own g t e (enc x) (W0 ++ [.lst acc]) k)
    (hc : ∀ acc, chk (W0 ++ [.lst acc])) (hl : xs.length ≤ 1000000) (hk : k (W0 ++ [.lst (xs.map r)])) (hn : W0.length = n := by simp) : lcL σ0 own n chk g t e (xs.map enc) (W0 ++ [.lst []]) k := by
  subst hn
  refine lcL_map enc (fun x => some (r x)) h hc (by simpa using hl) ?_
  rw [List.nil_append, List.filterMap_eq_map']
  exact hk
/-! ### lines with other worths in them -/
def mapT (g : Tl → Tl) (l : List LRow) : List LRow := l.map fun r => (r.1, r.2.1, g r.2.2)
theorem mapT_at (g : Tl → Tl) (m : Int) : ∀ l : List LRow, atL (mapT g l) m = (atL l m).map g
  | [] => rfl
  | r :: l => by
    have h := mapT_at g m l
    unfold mapT at h ⊢
    rw [List.map_cons, atL, atL]
    have e : rst (r.1, r.2.1, g r.2.2) = rst r := rfl
    rw [e]
    split
    · rfl
    · exact h
theorem mapT_can (g : Tl → Tl) (hg : ∀ a b, g a = g b → a = b) : ∀ {l : List LRow} {lo : Int} {t : Option Tl}, Can lo t l → Can lo (t.map g) (mapT g l)
  | [], _, _, _ => trivial
  | (b, none, t) :: l, lo, t0, h => by
    have : l = [] := h.2.2
    subst this
    refine ⟨h.1, fun e z => h.2.1 e ?_, rfl⟩
    cases t0 with
    | none => cases z
    | some u => rw [hg _ _ (Option.some.inj z)]
  | (b, some e, t) :: l, lo, t0, h => by
    refine ⟨h.1, fun q z => h.2.1 q ?_, h.2.2.1, mapT_can g hg h.2.2.2⟩
    cases t0 with
    | none => cases z
    | some u => rw [hg _ _ (Option.some.inj z)]
def sw : Tl → Tl
  | [a, b] => [b, a]
  | t => t
theorem sw_sw (t : Tl) : sw (sw t) = t := by
  rcases t with _ | ⟨a, _ | ⟨b, _ | ⟨c, t⟩⟩⟩ <;> rfl
theorem sw_inj (a b : Tl) (h : sw a = sw b) : a = b := by rw [← sw_sw a, h, sw_sw]
theorem two_sw (a b : Option Str) : (two a b).map sw = two b a := by
  unfold two
  by_cases h : a = none ∧ b = none
  · rw [if_pos h, if_pos ⟨h.2, h.1⟩]; rfl
  · rw [if_neg h, if_neg fun z => h ⟨z.2, z.1⟩]; rfl
def withN (t : Tl) : Tl := t ++ [none]
theorem withN_inj (a b : Tl) (h : withN a = withN b) : a = b := List.append_cancel_right h
theorem Prp.at_mem : ∀ {l : List LRow} {lo : Int} {r : LRow}, Prp lo l → r ∈ l → atL l r.1 = some r.2.2
  | [], _, _, _, h => by cases h
  | (b, none, t) :: l, lo, r, c, h => by
    have : l = [] := c.2
    subst this
    simp at h
    subst h
    rw [atL_none, if_pos (Int.le_refl _)]
  | (b, some e, t) :: l, lo, r, c, h => by
    rcases List.mem_cons.mp h with rfl | h
    · rw [atL_some, if_pos ⟨Int.le_refl _, c.2.1⟩]
    · have := (c.2.2.begins h).1
      rw [atL_some, if_neg (by omega)]
      exact c.2.2.at_mem h
/-- every row has its worth -/
def Fil (l : List LRow) : Prop := ∀ r ∈ l, ∃ w, r.2.2 = [some w]
theorem Fil.of {l : List LRow} {lo : Int} {f : Int → Option Str} (h : Prp lo l) (ha : ∀ m, atL l m = tl (f m)) : Fil l := fun r hr => by
  have := ha r.1
  rw [h.at_mem hr] at this
  cases e : f r.1 with
  | none => rw [e] at this; cases this
  | some w => rw [e] at this; exact ⟨w, Option.some.inj this⟩
theorem Fil.sing {l : List LRow} (h : Fil l) : Sing l := fun r hr => let ⟨w, e⟩ := h r hr; ⟨some w, e⟩
theorem Fil.at {l : List LRow} (h : Fil l) (m : Int) : atL l m = tl (wAt l m) := by
  cases e : atL l m with
  | none => rw [wAt, e]; rfl
  | some t =>
    have : ∃ r ∈ l, t = r.2.2 := by
      clear h
      induction l with
      | nil => cases e
      | cons r l ih =>
        rw [atL] at e
        split at e
        · cases e; exact ⟨r, by simp, rfl⟩
        · obtain ⟨q, hq, z⟩ := ih e
          exact ⟨q, by simp [hq], z⟩
    obtain ⟨r, hr, rfl⟩ := this
    obtain ⟨w, ew⟩ := h r hr
    rw [wAt, e, ew]
    rfl
theorem Fil.withN {l : List LRow} (h : Fil l) (m : Int) : f2 l [] m = (atL l m).map Tw.withN := by
  rw [h.at, f2, two]
  cases wAt l m <;> rfl
end Tw

set_option Elab.async false
set_option linter.all false
set_option maxRecDepth 100000
set_option maxHeartbeats 4000000
namespace Tw
open PySem PySem.Spec PyProof.Rows L2
/-! ### a put line is at most two rows longer -/
theorem cutRow_is (b : Int) (e : Option Int) (rb : Int) (re : Option Int) (t : Tl) : cutRow (b, e) (rb, re, t) = match earlierEnd re e with
    | none => some (max rb b, none, t)
    | some v => if max rb b < v then some (max rb b, some v, t) else none := by
  unfold cutRow common
  simp only [rst]
  cases earlierEnd re e with
  | none => rfl
  | some v =>
    show Option.map _ (if v ≤ max rb b then none else some (max rb b, some v)) = _
    by_cases c : v ≤ max rb b
    · rw [if_pos c]
      show none = if max rb b < v then _ else _
      rw [if_neg (by omega)]
    · rw [if_neg c]
      show _ = if max rb b < v then _ else _
      rw [if_pos (by omega)]
      rfl
theorem cutL_cons (r : LRow) (l : List LRow) (b : Int) (e : Option Int) : cutL (r :: l) b e = (cutRow (b, e) r).toList ++ cutL l b e := by
  unfold cutL
  rw [List.filterMap_cons]
  cases cutRow (b, e) r <;> rfl
theorem cutL_hi {l : List LRow} {lo b : Int} (h : Prp lo l) (hb : b ≤ lo) : cutL l 0 (some b) = [] := by
  unfold cutL
  rw [List.filterMap_eq_nil_iff]
  rintro ⟨rb, re, t⟩ hr
  have := (h.begins hr).1
  simp only at this
  rw [cutRow_is]
  cases re with
  | none =>
    simp only [earlierEnd]
    rw [if_neg (by omega)]
  | some re =>
    simp only [earlierEnd]
    rw [if_neg (by omega)]
theorem cut2_len : ∀ {l : List LRow} {lo b e : Int}, Prp lo l → b ≤ e → (cutL l 0 (some b)).length + (cutL l e none).length ≤ l.length + 1
  | [], _, _, _, _, _ => by simp [cutL]
  | (rb, none, t) :: l, lo, b, e, h, hbe => by
    have : l = [] := h.2
    subst this
    rw [cutL_cons, cutL_cons]
    simp only [List.length_append, List.length_cons, List.length_nil, cutL, List.filterMap_nil]
    cases cutRow (0, some b) (rb, none, t) <;> cases cutRow (e, none) (rb, none, t) <;> simp
  | (rb, some re, t) :: l, lo, b, e, h, hbe => by
    rw [cutL_cons, cutL_cons]
    have ih := cut2_len h.2.2 hbe
    simp only [List.length_append, List.length_cons]
    by_cases c : e < re
    · rw [cutL_hi h.2.2 (by omega)]
      have := cutL_len l e none
      cases cutRow (0, some b) (rb, some re, t) <;> cases cutRow (e, none) (rb, some re, t) <;> simp <;> omega
    · have : cutRow (e, none) (rb, some re, t) = none := by
        rw [cutRow_is]
        simp only [earlierEnd]
        rw [if_neg (by omega)]
      rw [this]
      cases cutRow (0, some b) (rb, some re, t) <;> simp <;> omega
theorem putL_len2 {l : List LRow} {b : Int} {e : Option Int} {w : Option Tl} (h : Prp 0 l) (ok : okSt (b, e)) : (putL l b e w).length ≤ l.length + 2 := by
  refine Nat.le_trans (joinL_len _) ?_
  unfold putRows headCut
  simp only [List.length_append]
  have h1 : (oneRow b e w).length ≤ 1 := by cases w <;> simp [oneRow]
  have h3 := cutL_len l 0 (some b)
  cases e with
  | none =>
    simp only [tailCut, List.length_nil]
    split
    · omega
    · simp only [List.length_nil]; omega
  | some e =>
    have h2 := cut2_len h (show b ≤ e by have := (ok.en e rfl).1; simp only at this; omega)
    simp only [tailCut]
    have h4 := cutL_len l e none
    split
    · omega
    · simp only [List.length_nil]; omega
/-! ### what putting keeps -/
theorem Fil.put {l : List LRow} {b : Int} {e : Option Int} {w : Option Str} (h : Fil l) (hp : Prp 0 l) (ok : okSt (b, e)) : Fil (putL l b e (tl w)) :=
  Fil.of (f := fun m => if inSt (b, e) m = true then w else wAt l m) (putL_can hp ok).prp fun m => by
    rw [putL_at hp ok]
    split
    · rfl
    · exact h.at m
theorem putL_wAt {l : List LRow} {b : Int} {e : Option Int} {w : Option Str} (hp : Prp 0 l) (ok : okSt (b, e)) (m : Int) : wAt (putL l b e (tl w)) m = if inSt (b, e) m = true then w else wAt l m := by
  rw [wAt, putL_at hp ok]
  split
  · rw [worthOf_tl]
  · rfl
theorem Fil.nil : Fil [] := by simp [Fil]
/-- lines with their worths are one where they tell the same -/
theorem wuniq {l m : List LRow} {lo lo' : Int} (hl : Can lo none l) (hm : Can lo' none m) (fl : Fil l) (fm : Fil m) (h : ∀ x, wAt l x = wAt m x) : l = m :=
  hl.uniq hm fun x => by rw [fl.at, fm.at, h]
/-- bounds of a joined, of a put line -/
theorem joinStep_ok {Q : Strt → Prop} (hQ : ∀ b e b2 e2, Q (b, some e) → Q (e, e2) → b2 = e → Q (b, e2)) {found : List LRow} {r : LRow} (h : ∀ q ∈ found, Q (rst q)) (hr : Q (rst r)) : ∀ q ∈ joinStep found r, Q (rst q) := by
  rcases snoc_cases found with rfl | ⟨p, c, rfl⟩
  · intro q hq
    simp [joinStep] at hq
    subst hq; exact hr
  · rw [joinStep_snoc]
    split
    · rename_i c1
      intro q hq
      rcases List.mem_append.mp hq with w | w
      · exact h q (by simp [w])
      · simp at w; subst w
        have hc := h c (by simp)
        obtain ⟨cb, ce, ct⟩ := c
        obtain ⟨rb, re, rt⟩ := r
        simp only at c1
        obtain ⟨rfl, _⟩ := c1
        exact hQ _ _ _ _ hc hr rfl
    · intro q hq
      simp only [List.mem_append, List.mem_cons, List.not_mem_nil, or_false] at hq
      rcases hq with w | rfl | rfl
      · exact h q (by simp [w])
      · exact h q (by simp)
      · exact hr
theorem joinL_ok {Q : Strt → Prop} (hQ : ∀ b e b2 e2, Q (b, some e) → Q (e, e2) → b2 = e → Q (b, e2)) {l : List LRow} (h : ∀ q ∈ l, Q (rst q)) : ∀ q ∈ joinL l, Q (rst q) := by
  rw [← join_eq]
  have : ∀ (l found : List LRow), (∀ q ∈ l, Q (rst q)) → (∀ q ∈ found, Q (rst q)) → ∀ q ∈ l.foldl joinStep found, Q (rst q) := by
    intro l
    induction l with
    | nil => intro found _ hf; exact hf
    | cons r l ih =>
      intro found hl hf
      exact ih _ (fun q hq => hl q (by simp [hq])) (joinStep_ok hQ hf (hl r (by simp)))
  exact this l [] h (by simp)
theorem okSt_join (b e : Int) (b2 : Int) (e2 : Option Int) (h : okSt (b, some e)) (h2 : okSt (e, e2)) (_ : b2 = e) : okSt (b, e2) := by
  refine ⟨h.lo, h.hi, fun v hv => ?_⟩
  have := h2.en v hv
  have := (h.en e rfl).1
  simp only at *
  omega
theorem okL_put {l : List LRow} {b : Int} {e : Option Int} {w : Option Tl} (h : ∀ r ∈ l, okSt (rst r)) (hp : Prp 0 l) (ok : okSt (b, e)) : ∀ r ∈ putL l b e w, okSt (rst r) := by
  refine joinL_ok okSt_join ?_
  have cutok : ∀ (q : Strt), okSt q → ∀ r ∈ cutL l q.1 q.2, okSt (rst r) := by
    rintro ⟨qb, qe⟩ hq r hr
    obtain ⟨⟨rb, re, t⟩, hm, hc⟩ := List.mem_filterMap.mp hr
    have hk := h _ hm
    rw [cutRow_is] at hc
    have hk1 := hk.lo
    have hk2 := hk.hi
    have hk3 := hk.en
    have hq1 := hq.lo
    have hq2 := hq.hi
    have hq3 := hq.en
    simp only [rst] at *
    cases re with
    | none =>
      cases qe with
      | none =>
        simp only [earlierEnd, Option.some.injEq] at hc
        subst hc
        exact ⟨by simp only; omega, by simp only; omega, fun e z => nomatch z⟩
      | some v =>
        simp only [earlierEnd] at hc
        split at hc
        · cases hc
          have := hq3 v rfl
          exact ⟨by simp only; omega, by simp only; omega, fun e z => by cases z; simp only; omega⟩
        · cases hc
    | some x =>
      have := hk3 x rfl
      cases qe with
      | none =>
        simp only [earlierEnd] at hc
        split at hc
        · cases hc
          exact ⟨by simp only; omega, by simp only; omega, fun e z => by cases z; simp only; omega⟩
        · cases hc
      | some v =>
        have := hq3 v rfl
        simp only [earlierEnd] at hc
        split at hc
        · cases hc
          exact ⟨by simp only; omega, by simp only; omega, fun e z => by cases z; simp only; omega⟩
        · cases hc
  intro r hr
  unfold putRows headCut at hr
  simp only [List.mem_append] at hr
  rcases hr with (hr | hr) | hr
  · split at hr
    · rename_i c
      exact cutok (0, some b) ⟨Int.le_refl 0, by show (0 : Int) ≤ 1000000000000; decide, fun e z => by cases z; exact ⟨c, ok.hi⟩⟩ r hr
    · cases hr
  · cases w with
    | none => cases hr
    | some t =>
      simp [oneRow] at hr
      subst hr
      exact ok
  · cases e with
    | none => cases hr
    | some e =>
      have := ok.en e rfl
      have h0 := ok.lo
      simp only at *
      exact cutok (e, none) ⟨by simp only; omega, by simp only; omega, fun e z => nomatch z⟩ r hr
/-- a row and the next one -/
theorem Can.next : ∀ {l : List LRow} {lo : Int} {t : Option Tl} {k : Nat} {r q : LRow}, Can lo t l → l[k]? = some r → l[k + 1]? = some q → ∃ e, r.2.1 = some e ∧ e ≤ q.1 ∧ (q.1 = e → r.2.2 ≠ q.2.2)
  | [], _, _, _, _, _, _, h, _ => by simp at h
  | (b, none, t) :: l, _, _, k, r, q, c, h1, h2 => by
    have : l = [] := c.2.2
    subst this
    simp at h2
  | (b, some e, t) :: l, _, _, 0, r, q, c, h1, h2 => by
    simp at h1 h2
    subst h1
    cases l with
    | nil => simp at h2
    | cons x l =>
      simp at h2
      subst h2
      obtain ⟨xb, xe, xt⟩ := x
      have c2 := c.2.2.2
      exact ⟨e, rfl, c2.1, fun z => fun w => c2.2.1 z (congrArg some w)⟩
  | (b, some e, t) :: l, _, _, k + 1, r, q, c, h1, h2 => by
    simp at h1 h2
    exact c.2.2.2.next h1 h2
theorem Prp.at_in : ∀ {l : List LRow} {lo : Int} {r : LRow} {m : Int}, Prp lo l → r ∈ l → inSt (rst r) m = true → atL l m = some r.2.2
  | [], _, _, _, _, h, _ => by cases h
  | (b, none, t) :: l, lo, r, m, c, h, hm => by
    have : l = [] := c.2
    subst this
    simp at h
    subst h
    rw [atL, if_pos hm]
  | (b, some e, t) :: l, lo, r, m, c, h, hm => by
    rcases List.mem_cons.mp h with rfl | h
    · rw [atL, if_pos hm]
    · have := (c.2.2.begins h).1
      have h2 : r.1 ≤ m := by
        unfold inSt at hm
        rw [Bool.and_eq_true] at hm
        exact of_decide_eq_true hm.1
      rw [atL_some, if_neg (by omega)]
      exact c.2.2.at_in h hm
theorem atL_mem : ∀ {l : List LRow} {m : Int}, atL l m ≠ none → ∃ r ∈ l, inSt (rst r) m = true
  | [], _, h => absurd rfl h
  | r :: l, m, h => by
    rw [atL] at h
    split at h
    · rename_i c
      exact ⟨r, by simp, c⟩
    · obtain ⟨q, hq, z⟩ := atL_mem h
      exact ⟨q, by simp [hq], z⟩
/-- parts that cover just a line, each with its worth -/
structure Cov (l parts : List LRow) : Prop where
  ok : ∀ p ∈ parts, okSt (rst p)
  fil : Fil parts
  at_ : ∀ p ∈ parts, ∀ m, inSt (rst p) m = true → atL l m = some p.2.2
  all : ∀ m, atL l m ≠ none → ∃ p ∈ parts, inSt (rst p) m = true
theorem Cov.mem {l ps qs : List LRow} (h : Cov l ps) (e : ∀ x, x ∈ qs ↔ x ∈ ps) : Cov l qs :=
  ⟨fun p hp => h.ok p ((e p).mp hp), fun p hp => h.fil p ((e p).mp hp), fun p hp => h.at_ p ((e p).mp hp), fun m hm => let ⟨p, hp, q⟩ := h.all m hm; ⟨p, (e p).mpr hp, q⟩⟩
theorem swap_mem {α : Type} {l : List α} {k j : Nat} {a b : α} (hk : l[k]? = some a) (hj : l[j]? = some b) (x : α) : x ∈ (l.set k b).set j a ↔ x ∈ l := by
  have lk : k < l.length := (List.getElem?_eq_some_iff.mp hk).1
  have lj : j < l.length := (List.getElem?_eq_some_iff.mp hj).1
  have e : ∀ i, ((l.set k b).set j a)[i]? = if i = j then some a else if i = k then some b else l[i]? := fun i => by
    by_cases c : i = j
    · subst c
      rw [if_pos rfl, List.getElem?_set_self (by simpa using lj)]
    · rw [if_neg c, List.getElem?_set_ne (Ne.symm c)]
      by_cases d : i = k
      · subst d
        rw [if_pos rfl, List.getElem?_set_self lk]
      · rw [if_neg d, List.getElem?_set_ne (Ne.symm d)]
  rw [List.mem_iff_getElem?, List.mem_iff_getElem?]
  constructor
  · rintro ⟨i, h⟩
    rw [e] at h
    split at h
    · exact ⟨k, hk.trans h⟩
    · split at h
      · exact ⟨j, hj.trans h⟩
      · exact ⟨i, h⟩
  · rintro ⟨i, h⟩
    by_cases c : i = k
    · subst c
      refine ⟨j, ?_⟩
      rw [e, if_pos rfl]
      rw [hk] at h
      exact h
    · by_cases d : i = j
      · subst d
        refine ⟨k, ?_⟩
        rw [e, if_neg (fun z => c z.symm), if_pos rfl]
        rw [hj] at h
        exact h
      · refine ⟨i, ?_⟩
        rw [e, if_neg d, if_neg c]
        exact h
/-- one of the streams, by the place -/
theorem row_pick {hs : List Nat} (h : hs ≠ []) (k : Nat) : ∃ x ∈ hs, atI (hs.map D.hnd) ((k : Int) % (hs.length : Int)) = some (.hnd x) := by
  have hl : 0 < hs.length := List.length_pos_iff.mpr h
  have h0 := Int.emod_nonneg (k : Int) (show (hs.length : Int) ≠ 0 by omega)
  have h1 := Int.emod_lt_of_pos (k : Int) (show (0 : Int) < (hs.length : Int) by omega)
  obtain ⟨r, hr⟩ : ∃ r : Nat, (k : Int) % (hs.length : Int) = (r : Int) := ⟨((k : Int) % (hs.length : Int)).toNat, by omega⟩
  rw [hr] at h1 ⊢
  have h2 : r < hs.length := by omega
  exact ⟨hs[r], List.getElem_mem h2, by rw [atI_nat0, List.getElem?_map, List.getElem?_eq_getElem h2]; rfl⟩
theorem get_ownL {W W1 : Wd} (h : W1.length = W.length) (o : O) (g : Wd) : (W1 ++ o :: g)[W.length]? = some o := by rw [← h]; exact get_own _ _ _
theorem set_ownL {W W1 : Wd} (h : W1.length = W.length) (o u : O) (g : Wd) : (W1 ++ o :: g).set W.length u = W1 ++ u :: g := by rw [← h]; exact set_own _ _ _ _
end Tw

set_option Elab.async false
set_option linter.all false
set_option maxRecDepth 100000
set_option maxHeartbeats 4000000
namespace Tw
open PySem PySem.Spec PyProof.Rows L2
/-! ### new instances -/
/-- a class whose instances are made by a def that keeps a promise -/
structure CMk (P : Program) (w : World) (K : PySem.W.Frag) (mg : Str → Option Value) (base : Heap) (k : Nat) (x : Str) (c : FC) : Prop where
  ex : ∃ f fd ps, Mk K (He.ga K x) f ∧ mg x = some (.ref (He.ga K x)) ∧ FnOk P w K mg base (L2.CX P w) k f fd ps (spOf K c) ∧ Binds K fd ps []
theorem FT.cmk {fa : List He.Fa} {fx : List Fx} {fn : List He.DefD} {K : PySem.W.Frag} {mg : Str → Option Value} {P : Program} {w : World} {base : Heap} (T : FT fa fx fn K mg) (i ig im : Nat) {C name qual : Str} {st : Stmt} {d : He.DefD} {k : Nat} {c : FC} {ps : List Str}
    (B : BodyOk P w K mg base k name qual st ps c) (hi : fn[i]? = some d := by rfl) (hg : fa[ig]? = some (.glo C) := by rfl) (hm : fa[im]? = some (.mkr C) := by rfl)
    (ha : d.at_ = (C, some ("__init__" : Str)) := by rfl) (hd : d.dfl = [] := by rfl) (hk : d.kwd = [] := by rfl) (e1 : d.name = name := by rfl) (e2 : d.qual = qual := by rfl) (e3 : d.params = defArgs st := by rfl) (e4 : d.body = defBody st := by rfl) (e5 : d.scope = defScope st := by rfl) : CMk P w K mg base k C c := by
  obtain ⟨fd, F⟩ := T.mdef i hi ha hd hk
  rw [e1, e2, e3, e4, e5] at F
  obtain ⟨q1, q2⟩ := B _ _ F
  exact ⟨⟨_, fd, ps, T.mkr im hm, T.gl ig hg, q1, q2⟩⟩
def mMake (x : Str) (c : FC) (ga : M (List D)) : M D := M.bind ga fun ds S P _ => c (.hnd S.W.length :: ds) (S.W ++ [.ins x []]) (fun d W => d = .non ∧ P (.hnd S.W.length) ⟨S.σ, W⟩) (fun _ _ => False)
theorem pass_none {X : Cx} : Passes (L2.CX X.prog X.w) X (fun _ _ _ => False) := by
  intro pins σ H s e s' _ h
  obtain ⟨_, _, _, _, _, _, _, _, _, _, _, _, z⟩ := h
  exact z.elim
section
variable {X : Cx} {WE : WX} {x m : Str} {p p1 pos apos : Pos} {e o : Expr} {es : List Expr} {ga : M (List D)} {fo : M D}
theorem make_core {K : PySem.W.Frag} {C : Addr} {c : FC} {σ : L2.St} {H1 : Hp} {Q : VK} {B1 : Hp} {φ1 : List Addr} {S1 : AS} {ds : List D} {vs : List V} (eC : C = He.ga K x) (R1 : Rel K B1 φ1 S1 σ H1) (r1 : Reps K B1 φ1 ds vs)
    (run : RRun K WE (fun S P _ => c (.hnd S.W.length :: ds) (S.W ++ [.ins x []]) (fun d W => d = .non ∧ P (.hnd S.W.length) ⟨S.σ, W⟩) (fun _ _ => False)) B1 φ1 S1 σ H1 Q) {y dx : Addr} (hy : H1 y = none) (hdx : H1 dx = none) (hne : dx ≠ y) :
    spOf K c (.ref y :: (vs ++ [])) (upd (upd H1 dx (.own y)) y (.ins C dx [])) (fun v H2 => v = .non ∧ Q (.ref y) H2) (fun _ _ _ => False) := by
  subst eC
  obtain ⟨P, Xx, h1, h2, h3⟩ := run
  have w1 : RelW K B1 φ1 S1.W (upd H1 dx (.own y)) := R1.w.new hdx
  have hy2 : upd H1 dx (.own y) y = none := by rw [upd_ne (Ne.symm hne)]; exact hy
  obtain ⟨w2, e2⟩ := w1.add (o := .ins x []) (ho := .ins (He.ga K x) dx []) hy2 ⟨dx, [], upd_same, rfl, Reps.nil⟩
  rw [List.append_nil]
  have hn : (φ1 ++ [y])[S1.W.length]? = some y := by rw [← R1.w.len, List.getElem?_append_right (Nat.le_refl _)]; simp
  refine ⟨B1, φ1 ++ [y], _, _, _, _, w2, Reps.cons ?_ (r1.mono e2 _ _), h1, ?_, ?_⟩
  · simp only [Rep]
    exact ⟨y, hn, rfl⟩
  · rintro d W' v B' φ' H' ⟨rfl, hp⟩ e' w' r'
    simp only [Rep] at r'
    refine ⟨r', h2 _ _ _ _ _ _ hp (e2.trans e') ⟨w', R1.len, fun i d h => let ⟨v, a, b⟩ := R1.slot i d h; ⟨v, a, b.mono (e2.trans e') _ _⟩⟩ ?_⟩
    simp only [Rep]
    exact ⟨y, e'.hnd hn, rfl⟩
  · intro _ _ _ _ _ _ _ q
    exact q.elim
theorem de_make {j k : Nat} {c : FC} (M0 : CMk X.prog X.w X.K X.mg X.base j x c) (hr : Room k X.A) (ha : PA X (e :: es) (tA X.K WE ga)) (hjk : j + 1 ≤ k := by decide) (hg : Gl X x := by rfl) (hdb : (x == ("__debug__" : Str)) = false := by decide)
    (he : starEach (e :: es) X.env = (false, eval e X.env) :: starEach es X.env := by rfl) (hpl : (backTo pos (starEach es X.env)).any (·.1) = false := by rfl) : PE X (.Call (.Name x p) (e :: es) [] pos) (tE X.K WE (mMake x c ga)) := by
  obtain ⟨f, fd, ps, h1, h2, F, hb⟩ := M0.ex
  refine PE.weak (pe_make h1 F (hr.mono hjk) hg h2 hb .nil pass_none ha hdb he hpl) fun σ H Q h => ?_
  obtain ⟨B, φ, S, R, run⟩ := h
  refine ⟨B, φ, S, R, run.bind.imp ?_⟩
  rintro vs H1 ⟨ds, B1, φ1, S1, e1, R1, r1, run1⟩ y dx hy hdx hne
  exact make_core rfl R1 r1 run1 hy hdx hne
theorem de_make0 {j k : Nat} {c : FC} (M0 : CMk X.prog X.w X.K X.mg X.base j x c) (hr : Room k X.A) (hjk : j + 1 ≤ k := by decide) (hg : Gl X x := by rfl) (hdb : (x == ("__debug__" : Str)) = false := by decide) : PE X (.Call (.Name x p) [] [] pos) (tE X.K WE (mMake x c mNil)) := by
  obtain ⟨f, fd, ps, h1, h2, F, hb⟩ := M0.ex
  refine PE.weak (pe_make0 h1 F (hr.mono hjk) hg h2 hb .nil pass_none hdb) fun σ H Q h => ?_
  obtain ⟨B, φ, S, R, run⟩ := h
  rintro y dx hy hdx hne
  exact make_core (ds := []) (vs := []) rfl R Reps.nil run hy hdx hne
/-! ### a class's def, called by the class's name -/
structure CFn (P : Program) (w : World) (K : PySem.W.Frag) (mg : Str → Option Value) (base : Heap) (k : Nat) (x m : Str) (c : FC) : Prop where
  ex : ∃ f fd ps, mg x = some (.ref (He.ga K x)) ∧ ClX.CRead K (He.ga K x) (.type "type") ∧ ClX.CVal K (He.ga K x) (.type "type") m (.ref f) (.ref f) ∧ PySem.W.keepIn K (.ref f) = true ∧ FnOk P w K mg base (L2.CX P w) k f fd ps (spOf K c) ∧ Binds K fd ps []
theorem FT.cfn {fa : List He.Fa} {fx : List Fx} {fn : List He.DefD} {K : PySem.W.Frag} {mg : Str → Option Value} {P : Program} {w : World} {base : Heap} (T : FT fa fx fn K mg) (i ig ir iv : Nat) {C m name qual : Str} {st : Stmt} {d : He.DefD} {k : Nat} {c : FC} {ps : List Str}
    (B : BodyOk P w K mg base k name qual st ps c) (hi : fn[i]? = some d := by rfl) (hg : fa[ig]? = some (.glo C) := by rfl) (hr : fx[ir]? = some (.rd C) := by rfl) (hv : fx[iv]? = some (.cval C m) := by rfl)
    (ha : d.at_ = (C, some m) := by rfl) (hd : d.dfl = [] := by rfl) (hk : d.kwd = [] := by rfl) (e1 : d.name = name := by rfl) (e2 : d.qual = qual := by rfl) (e3 : d.params = defArgs st := by rfl) (e4 : d.body = defBody st := by rfl) (e5 : d.scope = defScope st := by rfl) : CFn P w K mg base k C m c := by
  obtain ⟨fd, F⟩ := T.mdef i hi ha hd hk
  rw [e1, e2, e3, e4, e5] at F
  obtain ⟨q1, q2⟩ := B _ _ F
  exact ⟨⟨_, fd, ps, T.gl ig hg, T.rd ir hr, T.cval iv hv, F.kp, q1, q2⟩⟩
theorem dcf {j k : Nat} {c : FC} {pl : Sem Bool} (M0 : CFn X.prog X.w X.K X.mg X.base j x m c) (hr : Room k X.A) (tk : Takes X WE) (ha : PA X (e :: es) (tA X.K WE ga)) (hjk : j ≤ k := by decide) (hg : Gl X x := by rfl) (hdb : (x == ("__debug__" : Str)) = false := by decide)
    (hst : starEach (e :: es) X.env = (false, eval e X.env) :: starEach es X.env := by rfl) (hpl : (backTo pos (starEach es X.env)).any (·.1) = false := by rfl)
    (ht : eval (.Call (.Attribute (.Name x p1) m apos) (e :: es) [] pos) X.env = (do
      let ov ← eval (.Name x p1) X.env
      standAt apos.atName
      let (f, first) ← holding [ov] (getMethod ov m pl)
      callWith pos f first (backTo pos (starEach (e :: es) X.env)) (backToKw pos (keywordEach [] X.env))) := by rfl) :
    PE X (.Call (.Attribute (.Name x p1) m apos) (e :: es) [] pos) (tE X.K WE (mCall c ga)) := by
  obtain ⟨f, fd, ps, hm, hrd, hv, hk, F, hb⟩ := M0.ex
  refine ⟨fun pins s σ H Q I h => ?_⟩
  obtain ⟨B, φ, S, R, run⟩ := h
  refine PySem.W.methodCall_KW (pl := pl) (ld_glob I hg hm ?_ hdb) ht
  refine PySem.W.method_cls I.kIn hrd.ga (ClX.getcval_ok I hrd hv fun s2 I2 => ?_)
  refine PySem.W.callWith_K (first := []) (h₀ := X.base) I.ok.mod.kin hk (thn (ha.run pos pins s2 σ H _ I2 ⟨B, φ, S, R, run.bind⟩) fun us s3 ⟨vs, H2, I3, r, ds, B1, φ1, S1, e1, R1, r1, run1⟩ => ⟨I3.kIn, ?_⟩) hst hpl
  exact run_fnSD (dvs := []) (vs := vs) (us := us) (F.mono hjk) hr hb .nil (passAt tk σ) I3 r (by rw [List.append_nil]; exact spOf_of R1 r1 run1)
end
/-! ### raise, try -/
def sRaise0 (x : Str) : MS := fun S E => E.ex ⟨x, none⟩ S
section
variable {X : Cx} {WE : WX} {x : Str} {pos : Pos}
structure XMk (K : PySem.W.Frag) (mg : Str → Option Value) (x : Str) : Prop where
  ex : mg x = some (.ref (He.ga K x)) ∧ PySem.W.excIn K (He.ga K x) He.veBase "ValueError.__new__" = true ∧ PySem.W.keepIn K (.ref (He.ga K x)) = true ∧ PySem.W.subIn K (.ref (He.ga K x)) (.type "BaseException") = some true ∧ PySem.W.typeIn K (.ref (He.ga K x)) = some (.type "type")
theorem FT.xmk {fa : List He.Fa} {fx : List Fx} {fn : List He.DefD} {K : PySem.W.Frag} {mg : Str → Option Value} (T : FT fa fx fn K mg) (ig ie : Nat) {x : Str} (hg : fa[ig]? = some (.glo x) := by rfl) (he : fa[ie]? = some (.exc x) := by rfl) : XMk K mg x :=
  let ⟨a, b, c, d⟩ := He.exc_ok (T.says.fact ie he)
  ⟨T.gl ig hg, a, b, c, d⟩
theorem d_raise0 {msg : Str} {j : Nat} {p p2 cpos : Pos} (M0 : XMk X.K X.mg x) (hc : X.calm = true) (tk : Takes X WE) (hg : Gl X x := by rfl) (hdb : (x == ("__debug__" : Str)) = false := by decide) :
    PS X (.Raise (some (.Call (.Name x p) [.Constant (.str msg) j p2] [] cpos)) none pos) (tS X.K WE (sRaise0 x)) := by
  obtain ⟨h1, h2, h3, h4, h5⟩ := M0.ex
  refine PS.weak (ps_raise hc tk (pmk_own F.excBase_ValueError h2 h1 h3 (raises_own h4 h5) hg hdb)) fun DD σ H h => ?_
  obtain ⟨B, φ, S, R, E, q, hn, hr, hb, hc', hx⟩ := h
  exact hx _ _ σ _ _ B φ H q (Ext.refl _ _) R ⟨rfl, rfl⟩
/-- try: body, except y as n (slot i): suite; the exceptions that may come are of xs, all caught, without fields -/
def sTry (i : Nat) (xs : List Str) (body : MS) (h : Addr → Exn → MS) : MS := fun S E => body S { E with ex := fun x S1 => (x.cls ∈ xs ∧ x.fs = none) ∧ ∀ a, h a x ⟨S1.σ.set i (some (.gl a)), S1.W⟩ ⟨fun S2 => E.nx ⟨S2.σ.set i none, S2.W⟩, E.rt, fun S2 => E.bk ⟨S2.σ.set i none, S2.W⟩, fun S2 => E.ct ⟨S2.σ.set i none, S2.W⟩, fun _ _ => False⟩ }
theorem Rel.unset {K : PySem.W.Frag} {B H : Hp} {φ : List Addr} {S : AS} {σ : L2.St} (R : Rel K B φ S σ H) (i : Nat) : Rel K B φ ⟨S.σ.set i none, S.W⟩ (σ.set i none) H := by
  refine ⟨R.w, by simpa using R.len, fun j d h => ?_⟩
  by_cases hj : j = i
  · subst hj
    have hl : j < S.σ.length := by
      have := (List.getElem?_eq_some_iff.mp h).1
      simpa using this
    rw [List.getElem?_set_self hl] at h
    cases h
  · rw [List.getElem?_set_ne (Ne.symm hj)] at h ⊢
    exact R.slot j d h
/-- what is known of the exception that a suite holds -/
structure Held (K : PySem.W.Frag) (x : Exn) (oe : Obj) : Prop where
  z : Zc (.ref (He.ga K x.cls)) none oe
  f : ∃ vs, oe.data = .fields vs
theorem d_try {i : Nat} {y n : Str} {body suite : List Stmt} {b₀ : Stmt} {np pos' : Pos} {xs : List Str} {fb : MS} {fh : Addr → Exn → MS} (hs : X.stack = X.env :: X.outer) (hf : X.env.frame = some X.env.locals) (hN : X.N.Nodup) (hi : X.N[i]? = some n) (hln : X.env.kindOf n = some .local)
    (hy : X.mg y = some (.ref (He.ga X.K y))) (tk : Takes X WE) (hxs : ∀ x ∈ xs, PySem.W.exmOne X.K (.ref (He.ga X.K x)) (.ref (He.ga X.K y)) = some true)
    (hb : ∀ (W : WX) (pn : List (Addr × Obj)) (xe : Value → Shared → Prop), Takes (X.tr pn xe) W → PassesOwn (model X.prog X.w) X.A X.env xe → PSs (X.tr pn xe) body (tS X.K W fb))
    (hsu : ∀ (a : Addr) (oe : Obj) (x : Exn) (pn : List (Addr × Obj)), x.cls ∈ xs → Held X.K x oe → PSs (X.suite a ((a, oe) :: pn)) (b₀ :: suite) (tS X.K (fun _ _ _ _ => False) (fh a x)))
    (hg : Gl X y := by rfl) (hdb : (y == ("__debug__" : Str)) = false := by decide) :
    PS X (.Try body [.ExceptHandler (some (.Name y np)) (some n) (b₀ :: suite) pos'] [] [] pos) (tS X.K WE (sTry i xs fb fh)) := by
  refine PS.weak (ps_try_as (i := i) (ts := fun a cls d D σ H => ∃ x : Exn, (x.cls ∈ xs ∧ cls = .ref (He.ga X.K x.cls) ∧ d = none) ∧ tS X.K (fun _ _ _ _ => False) (fh a x) D σ H) (Wout := WE) hs hf hN hi hln ⟨hg, hdb, .inl hy⟩ tk hb
    (fun a oe cls d pn hz hf => ⟨fun pins s σ H D I h => ?_⟩)) fun DD σ H h => ?_
  · obtain ⟨x, ⟨hx, rfl, rfl⟩, q⟩ := h
    exact (hsu a oe x pn hx ⟨hz, hf⟩).run pins s σ H D I q
  · obtain ⟨B, φ, S, R, E, q, hn, hr, hbk, hct, hx⟩ := h
    refine ⟨B, φ, S, R, _, q, hn, hr, hbk, hct, ?_⟩
    rintro x S' σ' cls d B' φ' H' ⟨⟨hxm, hxf⟩, ha⟩ e' R' rx
    obtain ⟨rc, rd⟩ := rx
    subst rc
    rw [hxf] at rd
    subst rd
    refine ⟨true, hxs _ hxm, fun _ a na => ⟨x, ⟨hxm, rfl, rfl⟩, B', φ', ⟨S'.σ.set i (some (.gl a)), S'.W⟩, R'.set (by simp only [Rep]), _, ha a, ?_, ?_, ?_, ?_, ?_⟩, fun z => by cases z⟩
    · intro S2 σ2 B2 φ2 H2 a1 a2 a3
      exact hn _ _ B2 φ2 H2 a1 (e'.trans a2) (a3.unset i)
    · intro d2 S2 σ2 v B2 φ2 H2 a1 a2 a3 a4
      exact hr _ _ _ _ B2 φ2 H2 a1 (e'.trans a2) a3 a4
    · intro S2 σ2 B2 φ2 H2 a1 a2 a3
      exact hbk _ _ B2 φ2 H2 a1 (e'.trans a2) (a3.unset i)
    · intro S2 σ2 B2 φ2 H2 a1 a2 a3
      exact hct _ _ B2 φ2 H2 a1 (e'.trans a2) (a3.unset i)
    · intro x2 S2 σ2 cls2 d2 B2 φ2 H2 a1
      exact a1.elim
end
/-! ### isinstance of a caught exception -/
theorem reps_gbs {K : PySem.W.Frag} {B : Hp} {φ : List Addr} : ∀ {l : List Str} {xs : List V}, Reps K B φ (l.map D.gb) xs → xs = l.map fun y => V.ref (He.ga K y)
  | [], xs, h => h.nil_inv
  | y :: l, xs, h => by
    obtain ⟨v, r, rfl, h1, h2⟩ := h.cons_inv
    simp only [Rep] at h1
    rw [h1, reps_gbs h2]
    rfl
def mGbs (l : List Str) : M (List D) := fun S P _ => P (l.map D.gb) S
section
variable {X : Cx} {WE : WX} {x : Str} {pos : Pos}
theorem de_gb {y : Str} (hm : X.mg y = some (.ref (He.ga X.K y))) (hg : Gl X y := by rfl) (hd : (y == ("__debug__" : Str)) = false := by decide) : PE X (.Name y pos) (tE X.K WE (mC (.gb y))) :=
  d_glob (v := .ref (He.ga X.K y)) hg hm rfl (fun _ _ => by simp only [Rep]) hd
theorem all_nil {p : Str → Prop} : ∀ c ∈ ([] : List Str), p c := fun _ h => by cases h
theorem all_cons {p : Str → Prop} {a : Str} {l : List Str} (h : p a) (t : ∀ c ∈ l, p c) : ∀ c ∈ a :: l, p c := fun c hc => by
  rcases List.mem_cons.mp hc with rfl | q
  · exact h
  · exact t c q
def bIsE (a : Addr) (y : Str) (b : Bool) (ds : List D) : M D := fun S P _ => ds = [.gl a, .gb y] ∧ P (.bl b) S
def bIsEt (a : Addr) (t : String) (b : Bool) (ds : List D) : M D := fun S P _ => ds = [.gl a, .ty t] ∧ P (.bl b) S
theorem ca_isE {a : Addr} {y : Str} {b : Bool} (hk : PySem.W.kitOne X.K (.ref (He.ga X.K x)) (.ref (He.ga X.K y)) = some b) : CallA X.K WE (rIsE X.K (He.ga X.K x) a) (bIsE a y b) := by
  intro B φ S σ H ds vs Q R r q
  obtain ⟨P, Xx, ⟨rfl, h1⟩, h2, h3⟩ := q
  obtain ⟨v, u, rfl, r1, r2⟩ := two_inv r
  simp only [Rep] at r1 r2
  subst r1; subst r2
  exact ⟨_, .ref (He.ga X.K y), b, rfl, fun u hu => hu, hk, Run.fin h2 h1 R (by simp only [Rep])⟩
theorem ca_isEt {a : Addr} {t : String} {b : Bool} (hk : PySem.W.kitOne X.K (.ref (He.ga X.K x)) (.type t) = some b) : CallA X.K WE (rIsE X.K (He.ga X.K x) a) (bIsEt a t b) := by
  intro B φ S σ H ds vs Q R r q
  obtain ⟨P, Xx, ⟨rfl, h1⟩, h2, h3⟩ := q
  obtain ⟨v, u, rfl, r1, r2⟩ := two_inv r
  simp only [Rep] at r1 r2
  subst r1; subst r2
  exact ⟨_, .type t, b, rfl, fun u hu => hu, hk, Run.fin h2 h1 R (by simp only [Rep])⟩
def rIsEs (K : PySem.W.Frag) (D a : Addr) : List V → Hp → VK → Prop := fun xs H Q => ∃ (tp : Addr) (ys : List Str) (b : Bool), xs = [.ref a, .ref tp] ∧ H tp = some (.tup (ys.map fun y => .ref (He.ga K y))) ∧ PySem.W.kitAny K (.ref D) (ys.map fun y => .ref (He.ga K y)) = some b ∧ Q (.bl b) H
theorem vals_refs {f : Str → Addr} : ∀ {ys : List Str} {us : List Value}, Vals (ys.map fun y => V.ref (f y)) us → us = ys.map fun y => Value.ref (f y)
  | [], us, h => by cases h; rfl
  | y :: ys, us, h => by
    cases h with
    | cons r t =>
      cases (show _ = Value.ref (f y) from r)
      rw [vals_refs t]
      rfl
theorem call_isEs {a D : Addr} {oe : Obj} {pn : List (Addr × Obj)} (C : ExcC X.K D) (hz : Zc (.ref D) none oe) (hf : ∃ vs, oe.data = .fields vs) : CallR (X.suite a ((a, oe) :: pn)) (.builtin "isinstance") (rIsEs X.K D a) := by
  intro pins s σ H xs us Q I r h
  obtain ⟨tp, ys, b, rfl, hT, e, q⟩ := h
  obtain ⟨u1, u2, rfl, r1, r2⟩ := vals2 r
  cases (show u1 = Value.ref a from r1)
  cases (show u2 = Value.ref tp from r2)
  obtain ⟨hget, _⟩ := I.pin (a, oe) (List.mem_append.mpr (.inl List.mem_cons_self))
  obtain ⟨vs, hv⟩ := hf
  have J : PySem.W.InstAt s.heap a oe D none := by
    obtain ⟨oc, od, oda, osl⟩ := oe
    obtain ⟨h1, h2⟩ := hz
    dsimp only at h1 h2 hv
    subst h1 h2 hv
    exact ⟨hget, rfl, rfl, trivial⟩
  obtain ⟨_, its, rv, o, h1, h2, n, h3⟩ := (show ObjOk X.prog X.w H s.heap tp (.tup _) from I.hok tp _ hT)
  have e3 := vals_refs (f := He.ga X.K) rv
  subst e3
  obtain ⟨oc, od, dt, sl⟩ := o
  simp only at h2 h3
  subst h2 h3
  exact PySem.W.kia_tup (PySem.W.handS_kitx_exc C.hg C.hk C.hs C.hd C.ha C.hn C.ht C.hm) I.kIn J h1 e (fun z => nomatch z) fun tk => ⟨.bl b, H, I.kept (t' := tk) fun _ _ z => z, rfl, q⟩
theorem kitAny_of {K : PySem.W.Frag} {t : Value} {f : Str → Bool} : ∀ {ys : List Str}, (∀ y ∈ ys, PySem.W.kitOne K t (.ref (He.ga K y)) = some (f y)) → PySem.W.kitAny K t (ys.map fun y => .ref (He.ga K y)) = some (ys.any f)
  | [], _ => rfl
  | y :: ys, h => by
    have h1 := h y List.mem_cons_self
    have h2 := kitAny_of fun z hz => h z (List.mem_cons_of_mem _ hz)
    rw [List.map_cons, List.any_cons]
    cases e : f y with
    | true =>
      rw [e] at h1
      exact kitAny_cons h1 (fun z => by cases z) (fun _ => by simp)
    | false =>
      rw [e] at h1
      rw [Bool.false_or]
      exact kitAny_cons h1 (fun _ => h2) (fun z => by cases z)
/-- isinstance(e, (C1, C2, ..)) -/
def mIsEs (a : Addr) (b : Bool) (fe : M D) : M D := M.bind fe fun d S P _ => d = .gl a ∧ P (.bl b) S
theorem de_isEs {a0 : Expr} {es : List Expr} {fe : M D} {ys : List Str} {p p2 : Pos} {x1} {a : Addr} {z : Exn} {oe : Obj} {pn : List (Addr × Obj)} {f : Str → Bool} (C : ExcC X.K (He.ga X.K z.cls)) (Hd : Held X.K z oe) (hk : ∀ y ∈ ys, PySem.W.kitOne X.K (.ref (He.ga X.K z.cls)) (.ref (He.ga X.K y)) = some (f y))
    (hm : X.mg "isinstance" = none) (hv : bootBuiltins "isinstance" = some (.builtin "isinstance")) (hx : PE (X.suite a ((a, oe) :: pn)) a0 (tE X.K WE fe)) (hes : PA (X.suite a ((a, oe) :: pn)) es (tA X.K WE (mGbs ys)))
    (hl : ys.length ≤ 900) (hg : Gl (X.suite a ((a, oe) :: pn)) "isinstance" := by rfl) (hs : starEach [a0, .Tuple es x1 p2] (X.suite a ((a, oe) :: pn)).env = (false, eval a0 (X.suite a ((a, oe) :: pn)).env) :: starEach [.Tuple es x1 p2] (X.suite a ((a, oe) :: pn)).env := by rfl)
    (hs2 : starEach [.Tuple es x1 p2] (X.suite a ((a, oe) :: pn)).env = (false, eval (.Tuple es x1 p2) (X.suite a ((a, oe) :: pn)).env) :: starEach [] (X.suite a ((a, oe) :: pn)).env := by rfl) (hpl : (backTo pos (starEach [.Tuple es x1 p2] (X.suite a ((a, oe) :: pn)).env)).any (·.1) = false := by rfl) :
    PE (X.suite a ((a, oe) :: pn)) (.Call (.Name "isinstance" p) [a0, .Tuple es x1 p2] [] pos) (tE X.K WE (mIsEs a (ys.any f) fe)) :=
  PE.weak (pe_callB (call_isEs C Hd.z Hd.f) hg hm hv (pa_cons hx (pa_cons (pe_tup hes) pa_nil hs2) hs) (by decide) (by decide) hs hpl) fun σ H Q h => by
    obtain ⟨B, φ, S, R, run⟩ := h
    refine ⟨B, φ, S, R, run.bind.imp ?_⟩
    rintro v H1 ⟨d, B1, φ1, S1, e1, R1, r1, P, Xx, ⟨rfl, h1⟩, h2, h3⟩
    simp only [Rep] at r1
    subst r1
    refine ⟨B1, φ1, S1, R1, fun ds S2 => ds = ys.map D.gb ∧ S2 = S1, fun _ _ => False, ⟨rfl, rfl⟩, ?_, by intros; contradiction⟩
    rintro ds S2 xs B2 φ2 H2 ⟨rfl, rfl⟩ e2 R2 r2
    have ex := reps_gbs r2
    subst ex
    refine ⟨by rw [List.length_map]; exact sz_small (by omega), fun q hq => ?_⟩
    obtain ⟨w, e3⟩ := R2.w.frz (o := .tup (ys.map fun y => V.ref (He.ga X.K y))) hq
    exact ⟨q, ys, ys.any f, rfl, upd_same, kitAny_of hk, h2 _ _ _ _ _ _ h1 (e2.trans e3) (R2.ext e3 w) (by simp only [Rep])⟩
end
end Tw

set_option Elab.async false
set_option linter.all false
set_option maxRecDepth 100000
set_option maxHeartbeats 4000000
namespace Tw
open PySem PySem.Spec PyProof.Rows L2
/-! ### d.get(k, x) -/
def getD2 (o k x : D) : M D := fun S P _ => match rdD S.W o, toKey k with
  | some (ks, l), some kk => (match valD ks l kk with
    | some d => P d S
    | none => P x S)
  | _, _ => False
def mGet2 (fo fk fx : M D) : M D := M.bind fo fun o S P X => (∃ ks l, rdD S.W o = some (ks, l)) ∧ (M.bind fk fun k => M.bind fx fun x => getD2 o k x) S P X
section
variable {X : Cx} {WE : WX} {o e f : Expr} {fo fk fx : M D} {apos cpos : Pos}
theorem de_get2 (hu : X.A.units + 64 < cLine) (ho : PE X o (tE X.K WE fo)) (he : PE X e (tE X.K WE fk)) (hf : PE X f (tE X.K WE fx)) (m1 : attributeBase o "get" X.env (eval o X.env) = eval o X.env := by rfl)
    (m2 : ((backTo cpos (starEach [e, f] X.env)).all (fun x => !x.1) && (backToKw cpos (keywordEach [] X.env)).all (fun x => x.1.isSome)
    && decide (([e, f] : List Expr).length + ([] : List Keyword).length + (if ([] : List Keyword).isEmpty then 0 else 1) < 30)) = true := by rfl)
    (m3 : (apos.endLine == cpos.line) = true := by rfl) (m4 : backTo cpos (starEach [e, f] X.env) = [(false, eval e X.env), (false, eval f X.env)] := by rfl) :
    PE X (.Call (.Attribute o "get" apos) [e, f] [] cpos) (tE X.K WE (mGet2 fo fk fx)) :=
  PE.weak (pe_dget2 (by omega) ho he hf ⟨m1, m2, m3, m4⟩) fun σ H Q h => by
    obtain ⟨B, φ, S, R, run⟩ := h
    refine ⟨B, φ, S, R, run.bind.imp ?_⟩
    rintro x H1 ⟨d, B1, φ1, S1, e1, R1, r1, P, Xx, ⟨⟨ks, l, hd⟩, h1⟩, h2, h3⟩
    obtain ⟨a, kvs, rfl, hk, rfl, hr⟩ := rdD_ok R1.w r1 hd
    refine ⟨a, rfl, .inl ⟨kvs, hk⟩, B1, φ1, S1, R1, Run.imp (Run.bind ⟨P, Xx, h1, h2, h3⟩) ?_⟩
    rintro y H2 ⟨dk, B2, φ2, S2, e2, R2, r2, run2⟩
    refine ⟨B2, φ2, S2, R2, run2.bind.imp ?_⟩
    rintro z H3 ⟨dx, B3, φ3, S3, e3, R3, r3, P3, X3, g1, g2, g3⟩
    unfold getD2 at g1
    split at g1
    · rename_i ks3 l3 kk hd3 hkk
      obtain ⟨a3, kvs3, ea, hk3, rfl, hr3⟩ := rdD_ok R3.w ((r1.mono e2 _ _).mono e3 _ _) hd3
      cases ea
      obtain rfl := toKey_ok (r2.mono e3 _ _) hkk
      refine ⟨valV kvs3 kk, .inl ⟨kvs3, kk, hk3, rfl, rfl⟩, ?_⟩
      rcases valV_val kk hr3 with ⟨v1, v2⟩ | ⟨dd, v, v1, v2, rv⟩
      · rw [v1] at g1
        rw [v2]
        exact Run.fin g2 g1 R3 r3
      · rw [v1] at g1
        rw [v2]
        exact Run.fin g2 g1 R3 rv
    · exact g1.elim
end
/-! ### {k: v, ..} -/
def mPNil : M (List (D × D)) := fun S P _ => P [] S
def mPCons (fk fv : M D) (fr : M (List (D × D))) : M (List (D × D)) := M.bind fk fun k => M.bind fv fun v => M.bind fr fun r S P _ => P ((k, v) :: r) S
def RepP (K : PySem.W.Frag) (B : Hp) (φ : List Addr) : List (D × D) → List (V × V) → Prop
  | [], l => l = []
  | (k, v) :: r, l => ∃ x y t, l = (x, y) :: t ∧ Rep K B φ k x ∧ Rep K B φ v y ∧ RepP K B φ r t
def tP (K : PySem.W.Frag) (WE : WX) (f : M (List (D × D))) : L2.St → Hp → (List (V × V) → Hp → Prop) → Prop := tOfG K WE (RepP K) f
structure DPs (X : Cx) (WE : WX) (pos : Pos) (keys : List (Option Expr)) (values : List Expr) (f : M (List (D × D))) : Prop where
  ex : ∃ trs, PPs X pos keys values trs ∧ ∀ σ H Q, tP X.K WE f σ H Q → tPairs trs σ H Q
section
variable {X : Cx} {WE : WX} {pos : Pos}
theorem dps_nil : DPs X WE pos [] [] mPNil := ⟨[], pps_nil, fun σ H Q ⟨B, φ, S, R, P, Xx, h1, h2, h3⟩ => h2 [] S [] B φ H h1 (Ext.refl _ _) R rfl⟩
theorem dps_cons {k v : Expr} {ks : List (Option Expr)} {vs : List Expr} {fk fv : M D} {fr : M (List (D × D))} (hk : PE X k (tE X.K WE fk)) (hv : PE X v (tE X.K WE fv)) (hr : DPs X WE pos ks vs fr) : DPs X WE pos (some k :: ks) (v :: vs) (mPCons fk fv fr) := by
  obtain ⟨trs, h, w⟩ := hr.ex
  refine ⟨(tE X.K WE fk, tE X.K WE fv) :: trs, pps_cons hk hv h, fun σ H Q q => ?_⟩
  obtain ⟨B, φ, S, R, run⟩ := q
  have run' : Run X.K WE (RepP X.K) (M.bind fk fun k => M.bind fv fun v => M.bind fr fun r S P _ => P ((k, v) :: r) S) B φ S σ H Q := run
  refine ⟨B, φ, S, R, run'.bind.imp ?_⟩
  rintro x H1 ⟨dk, B1, φ1, S1, e1, R1, r1, run1⟩
  refine ⟨B1, φ1, S1, R1, run1.bind.imp ?_⟩
  rintro y H2 ⟨dv, B2, φ2, S2, e2, R2, r2, run2⟩
  refine w _ _ _ ⟨B2, φ2, S2, R2, run2.bind.imp ?_⟩
  rintro ps H3 ⟨dr, B3, φ3, S3, e3, R3, r3, P, Xx, h1, h2, h3⟩
  exact h2 _ S3 _ B3 φ3 H3 h1 (Ext.refl _ _) R3 ⟨x, y, ps, rfl, (r1.mono e2 _ _).mono e3 _ _, r2.mono e3 _ _, r3⟩
def mrg (kvs : List (Key × D)) : List Key × List D := kvs.foldl (fun acc kv => putD acc.1 acc.2 kv.1 kv.2) ([], [])
def mDisp (fp : M (List (D × D))) : M D := fun S P X => fp ⟨S.σ, S.W ++ [.dct [] []]⟩ (fun ps S1 => ∃ kvs : List (Key × D), ps.map (fun p => toKey p.1) = kvs.map (fun q => some q.1) ∧ ps.map (·.2) = kvs.map (·.2) ∧ kvs.length ≤ 15 ∧ S1.W[S.W.length]? = some (.dct [] []) ∧
  P (.hnd S.W.length) ⟨S1.σ, S1.W.set S.W.length (.dct (mrg kvs).1 (mrg kvs).2)⟩) X
theorem repP_kvs {K : PySem.W.Frag} {B : Hp} {φ : List Addr} : ∀ {ps : List (D × D)} {kvs : List (Key × D)} {l : List (V × V)}, RepP K B φ ps l → ps.map (fun p => toKey p.1) = kvs.map (fun q => some q.1) → ps.map (·.2) = kvs.map (·.2) →
    ∃ vs : List (Key × V), l = vs.map (fun kv => (kV kv.1, kv.2)) ∧ vs.map (·.1) = kvs.map (·.1) ∧ Reps K B φ (kvs.map (·.2)) (vs.map (·.2))
  | [], [], l, h, _, _ => ⟨[], h, rfl, Reps.nil⟩
  | [], _ :: _, l, h, e, _ => by simp at e
  | _ :: _, [], l, h, e, _ => by simp at e
  | (k, v) :: ps, (kk, dd) :: kvs, l, h, e, e2 => by
    obtain ⟨x, y, t, rfl, r1, r2, r3⟩ := h
    simp only [List.map_cons, List.cons.injEq] at e e2
    obtain ⟨e2a, e2b⟩ := e2
    subst e2a
    obtain ⟨vs, h1, h2, h3⟩ := repP_kvs r3 e.2 e2b
    obtain rfl := toKey_ok r1 e.1
    exact ⟨(kk, y) :: vs, by simp [h1], by simp [h2], Reps.cons r2 h3⟩
theorem mrg_rep {K : PySem.W.Frag} {B : Hp} {φ : List Addr} : ∀ {vs : List (Key × V)} {kvs : List (Key × D)} {acc : List (Key × V)} {ak : List Key × List D}, vs.map (·.1) = kvs.map (·.1) → Reps K B φ (kvs.map (·.2)) (vs.map (·.2)) → acc.map (·.1) = ak.1 → Reps K B φ ak.2 (acc.map (·.2)) →
    (mergeK acc vs).map (·.1) = (kvs.foldl (fun acc kv => putD acc.1 acc.2 kv.1 kv.2) ak).1 ∧ Reps K B φ (kvs.foldl (fun acc kv => putD acc.1 acc.2 kv.1 kv.2) ak).2 ((mergeK acc vs).map (·.2))
  | [], [], acc, ak, _, _, h1, h2 => ⟨h1, h2⟩
  | [], _ :: _, acc, ak, h, _, _, _ => by simp at h
  | _ :: _, [], acc, ak, h, _, _, _ => by simp at h
  | (k, v) :: vs, (kk, d) :: kvs, acc, ak, h, r, h1, h2 => by
    simp only [List.map_cons, List.cons.injEq] at h
    obtain ⟨rfl, h⟩ := h
    obtain ⟨y, t, e, r1, r2⟩ := r.cons_inv
    simp only [List.map_cons, List.cons.injEq] at e
    obtain ⟨rfl, rfl⟩ := e
    obtain ⟨ak1, ak2⟩ := ak
    subst h1
    obtain ⟨p1, p2⟩ := put_rep (k := k) r1 h2
    exact mrg_rep (vs := vs) (kvs := kvs) (acc := putK acc k v) h r2 p1 p2
theorem de_disp {keys : List (Option Expr)} {values : List Expr} {fp : M (List (D × D))} (h : DPs X WE pos keys values fp) (hall : keys.all (·.isSome) = true := by rfl) (hl : keys.length = values.length := by rfl) (h0 : keys ≠ [] := by simp) (h15 : keys.length ≤ 15 := by decide) :
    PE X (.Dict keys values pos) (tE X.K WE (mDisp fp)) := by
  obtain ⟨trs, hp, w⟩ := h.ex
  refine PE.weak (pe_disp hp hall hl h0 h15) fun σ H Q q => ?_
  obtain ⟨B, φ, S, R, P, Xx, h1, h2, h3⟩ := q
  unfold mDisp at h1
  intro p hn
  obtain ⟨w1, e1⟩ := R.w.add (o := .dct [] []) (ho := .dK []) hn ⟨[], upd_same, rfl, Reps.nil⟩
  have hp0 : (φ ++ [p])[S.W.length]? = some p := by rw [← R.w.len, List.getElem?_append_right (Nat.le_refl _)]; simp
  refine w _ _ _ ⟨B, φ ++ [p], ⟨S.σ, S.W ++ [.dct [] []]⟩, R.ext e1 w1, _, Xx, h1, ?_, fun x S' cls d B' φ' H' hx e2 r2 rx => h3 x S' cls d B' φ' H' hx (e1.trans e2) r2 rx⟩
  rintro ps S2 l B2 φ2 H2 ⟨kvs, ek, ev, hz, hw, hP⟩ e2 R2 r2
  obtain ⟨vs, rfl, hk, hr⟩ := repP_kvs r2 ek ev
  obtain ⟨a, ha, kvs0, hx, hk0, hr0⟩ := R2.w.get hw
  have ea := e2.hnd hp0
  rw [ha] at ea; cases ea
  have : kvs0 = [] := by simpa using hk0
  subst this
  have hlen : vs.length = kvs.length := by simpa using congrArg List.length hk
  refine ⟨hx, vs, rfl, by omega, ?_⟩
  obtain ⟨m1, m2⟩ := mrg_rep (acc := []) (ak := ([], [])) hk hr rfl Reps.nil
  refine h2 _ _ _ _ _ _ hP (e1.trans e2) ⟨R2.w.put (o := .dct (mrg kvs).1 (mrg kvs).2) (ho := .dK (mergeK [] vs)) ha ⟨_, upd_same, m1, m2⟩, R2.len, R2.slot⟩ ?_
  simp only [Rep]
  exact ⟨p, ha, rfl⟩
end
end Tw

set_option Elab.async false
set_option linter.all false
set_option maxRecDepth 100000
set_option maxHeartbeats 4000000
namespace Tw
open PySem PySem.Spec PyProof.Rows L2
section
variable {p : Str → Prop} {c a1 a2 a3 a4 a5 a6 a7 a8 a9 : Str}
theorem memK1 (hx : c ∈ [a1]) (h1 : p a1) : p c := by simp at hx; subst hx; exact h1
theorem memK2 (hx : c ∈ [a1, a2]) (h1 : p a1) (h2 : p a2) : p c := by
  rcases List.mem_cons.mp hx with rfl | hx
  · exact h1
  · exact memK1 hx h2
theorem memK3 (hx : c ∈ [a1, a2, a3]) (h1 : p a1) (h2 : p a2) (h3 : p a3) : p c := by
  rcases List.mem_cons.mp hx with rfl | hx
  · exact h1
  · exact memK2 hx h2 h3
theorem memK4 (hx : c ∈ [a1, a2, a3, a4]) (h1 : p a1) (h2 : p a2) (h3 : p a3) (h4 : p a4) : p c := by
  rcases List.mem_cons.mp hx with rfl | hx
  · exact h1
  · exact memK3 hx h2 h3 h4
theorem memK5 (hx : c ∈ [a1, a2, a3, a4, a5]) (h1 : p a1) (h2 : p a2) (h3 : p a3) (h4 : p a4) (h5 : p a5) : p c := by
  rcases List.mem_cons.mp hx with rfl | hx
  · exact h1
  · exact memK4 hx h2 h3 h4 h5
theorem memK6 (hx : c ∈ [a1, a2, a3, a4, a5, a6]) (h1 : p a1) (h2 : p a2) (h3 : p a3) (h4 : p a4) (h5 : p a5) (h6 : p a6) : p c := by
  rcases List.mem_cons.mp hx with rfl | hx
  · exact h1
  · exact memK5 hx h2 h3 h4 h5 h6
end
section
variable {X : Cx} {K : PySem.W.Frag} {WE : WX}
/-- tuple(x), of a list or tuple -/
def bTuple (ds : List D) : M D := fun S P X => match ds with
  | [.tup l] => P (.tup l) S
  | [d] => (match rdL S.W d with
    | some l => P (.tup l) S
    | none => False)
  | _ => False
theorem ca_tuple : CallA X.K WE (fun xs H Q => ∃ p ys, xs = [.ref p] ∧ ((SqL X.K H p ys ∧ ∀ l, H l = none → Q (.ref l) (upd H l (.tup ys))) ∨ (SqT X.K H p ys ∧ Q (.ref p) H))) bTuple := by
  intro B φ S σ H ds vs Q R r q
  obtain ⟨P, Xx, h1, h2, h3⟩ := q
  unfold bTuple at h1
  split at h1
  · rename_i l
    obtain ⟨v, rfl, r1⟩ := one_inv r
    have r1' := r1
    simp only [Rep] at r1
    obtain ⟨p, xs, rfl, hp, hr⟩ := r1
    exact ⟨p, xs, rfl, .inr ⟨R.w.sqT hp, Run.fin h2 h1 R r1'⟩⟩
  · rename_i d _
    obtain ⟨v, rfl, r1⟩ := one_inv r
    split at h1
    · rename_i l e
      obtain ⟨p, xs, rfl, hp, hr⟩ := rdL_ok R.w r1 e
      exact ⟨p, xs, rfl, .inl ⟨hp, fun z hz => newT_ok R h1 h2 hr hz⟩⟩
    · exact h1.elim
  · exact h1.elim
/-- sorted(d) of a dict whose keys are texts -/
def bSortDS (h : Bool) (ds : List D) : M D := fun S P X => match ds with
  | [d] => ∃ (ks : List Str) (l : List D), rdD S.W d = some (ks.map Sum.inr, l) ∧ ks.length < 64 ∧ ∀ ys : List Str, ys.Perm ks → sortedS ys = true → newL h (ys.map D.str) S P X
  | _ => False
theorem reps_of_strs {B : Hp} {φ : List Addr} : ∀ l : List Str, Reps K B φ (l.map D.str) (l.map V.str)
  | [] => Reps.nil
  | a :: l => Reps.cons (by simp only [Rep]) (reps_of_strs l)
theorem ca_sortDS {h : Bool} : CallA K WE (fun xs H Q => ∃ (a : Addr) (kvs : List (Key × V)) (ks : List Str), xs = [.ref a] ∧ Rd H a (.dK kvs) ∧ kvs.map (·.1) = ks.map Sum.inr ∧ ks.length < 64 ∧ ∀ ys p, ys.Perm ks → sortedS ys = true → H p = none → Q (.ref p) (upd H p (.lst (ys.map V.str)))) (bSortDS h) := by
  intro B φ S σ H ds vs Q R r q
  obtain ⟨P, Xx, h1, h2, h3⟩ := q
  unfold bSortDS at h1
  split at h1
  · rename_i d
    obtain ⟨v, rfl, rv⟩ := one_inv r
    obtain ⟨ks, l, e, hz, h1⟩ := h1
    obtain ⟨a, m, rfl, hp, hk, hr⟩ := rdD_ok R.w rv e
    exact ⟨a, m, ks, rfl, hp, hk, hz, fun ys p y1 y2 hp => newL_ok (WE := WE) R ⟨P, Xx, h1 ys y1 y2, h2, h3⟩ (reps_of_strs ys) hp⟩
  · exact h1.elim
/-- int(flag), int(n) -/
def bInt (ds : List D) : M D := fun S P _ => match ds with
  | [.int i] => P (.int i) S
  | [.bl b] => P (.int (if b then 1 else 0)) S
  | _ => False
theorem ca_int : CallA K WE (fun xs H Q => (∃ i, xs = [.int i] ∧ Q (.int i) H) ∨ ∃ k, xs = [.bl k] ∧ Q (.int (if k then 1 else 0)) H) bInt := by
  intro B φ S σ H ds vs Q R r q
  obtain ⟨P, Xx, h1, h2, h3⟩ := q
  unfold bInt at h1
  split at h1
  · rename_i i
    obtain ⟨v, rfl, r1⟩ := one_inv r
    simp only [Rep] at r1
    exact .inl ⟨i, by rw [r1], Run.fin h2 h1 R (by simp only [Rep])⟩
  · rename_i b
    obtain ⟨v, rfl, r1⟩ := one_inv r
    simp only [Rep] at r1
    exact .inr ⟨b, by rw [r1], Run.fin h2 h1 R (by simp only [Rep])⟩
  · exact h1.elim
/-- xs * k -/
def dRep (h : Bool) : Dop := fun a b S P X => match b with
  | .int k => (match rdM S.W a with
    | some l => (-(2 ^ 63) ≤ k ∧ k < 2 ^ 63 ∧ l.length * k.toNat ≤ sizeLine) ∧ newL h (List.replicate k.toNat l).flatten S P X
    | none => False)
  | _ => False
theorem reps_flat {B : Hp} {φ : List Addr} {l : List D} {xs : List V} (r : Reps K B φ l xs) : ∀ n : Nat, Reps K B φ (List.replicate n l).flatten (List.replicate n xs).flatten
  | 0 => by simpa using Reps.nil
  | n + 1 => by
    rw [List.replicate_succ, List.replicate_succ, List.flatten_cons, List.flatten_cons]
    exact r.append (reps_flat r n)
theorem opa_rep (h : Bool) : OpA K WE rRep (dRep h) := by
  intro B φ S σ H a b x y Q R ra rb q
  obtain ⟨P, Xx, h1, h2, h3⟩ := q
  unfold dRep at h1
  split at h1
  · rename_i k
    split at h1
    · rename_i l e
      obtain ⟨⟨k1, k2, k3⟩, h1⟩ := h1
      obtain ⟨p, xs, rfl, hp, hr⟩ := rdM_ok R.w ra e
      simp only [Rep] at rb
      exact ⟨p, k, xs, rfl, rb, hp, k1, k2, by rw [hr.length]; exact k3, fun z hz => newL_ok (WE := WE) R ⟨P, Xx, h1, h2, h3⟩ (reps_flat hr _) hz⟩
    · exact h1.elim
  · exact h1.elim
end
end Tw

set_option Elab.async false
set_option linter.all false
set_option maxRecDepth 100000
set_option maxHeartbeats 4000000
namespace Tw
open PySem PySem.Spec PyProof.Rows L2
/-! ### fields, methods: how they are answered -/
theorem fld_go {f : Str} {Cs : List Str} {n : Nat} {C : Str} {fs : List (Str × D)} {v : D} {S : AS} {P : D → AS → Prop} {X : XA} (hw : S.W[n]? = some (.ins C fs)) (hl : fs.lookup f = some v) (hC : C ∈ Cs) (h : P v S) : dFld f Cs (.hnd n) S P X := by
  show (match S.W[n]? with
    | some (.ins C fs) => C ∈ Cs ∧ (match fs.lookup f with
      | some v => P v S
      | none => False)
    | _ => False)
  rw [hw]
  simp only
  rw [hl]
  exact ⟨hC, h⟩
theorem putf_go {f : Str} {Cs : List Str} {n : Nat} {C : Str} {fs : List (Str × D)} {v : D} {S : AS} {P : AS → Prop} (hw : S.W[n]? = some (.ins C fs)) (hC : C ∈ Cs) (hz : fs.length < 900) (h : P ⟨S.σ, S.W.set n (.ins C (putFD f v fs))⟩) : dPutF f Cs (.hnd n) v S P := by
  show (match S.W[n]? with
    | some (.ins C fs) => C ∈ Cs ∧ fs.length < 900 ∧ P ⟨S.σ, S.W.set n (.ins C (putFD f v fs))⟩
    | _ => False)
  rw [hw]
  exact ⟨hC, hz, h⟩
theorem meth_go {m : Str} {tbl : Tbl} {ga : M (List D)} {n : Nat} {C : Str} {fs : List (Str × D)} {U : List Str} {c : FC} {S : AS} {P : D → AS → Prop} {X : XA} (hw : S.W[n]? = some (.ins C fs)) (hl : fs.lookup m = none) (hp : (U, c) ∈ tbl) (hC : C ∈ U)
    (h : ga S (fun ds S1 => isA S1.W n C ∧ c (.hnd n :: ds) S1.W (fun d W => P d ⟨S1.σ, W⟩) (fun x W => X x ⟨S1.σ, W⟩)) X) : dMeth m tbl ga (.hnd n) S P X := by
  show (match S.W[n]? with
    | some (.ins C fs) => fs.lookup m = none ∧ ∃ p, p ∈ tbl ∧ C ∈ p.1 ∧ (M.bind ga fun ds S1 P X => isA S1.W n C ∧ p.2 (.hnd n :: ds) S1.W (fun d W => P d ⟨S1.σ, W⟩) (fun x W => X x ⟨S1.σ, W⟩)) S P X
    | _ => False)
  rw [hw]
  exact ⟨hl, (U, c), hp, hC, h⟩
theorem isA.eq {W : Wd} {n : Nat} {C C' : Str} (h : isA W n C) (h' : isA W n C') : C = C' := by
  obtain ⟨fs, e⟩ := h
  obtain ⟨fs', e'⟩ := h'
  rw [e] at e'
  cases e'
  rfl
/-! ### tellings and the lines they make -/
structure Tel where
  key : Str
  w : Option Str
  b : Int
  e : Option Int
def telD (t : Tel) : D := match t.w with
  | some w => .tup [.str "put", .str t.key, .str w, .int t.b, oD t.e]
  | none => .tup [.str "clear", .str t.key, .int t.b, oD t.e]
structure okTel (t : Tel) : Prop where
  key : isNameS t.key = true
  w : ∀ w, t.w = some w → isNameS w = true
  st : okSt (t.b, t.e)
def lstep (k : Str) (l : List LRow) (t : Tel) : List LRow := if t.key = k then putL l t.b t.e (tl t.w) else l
def lineOf (ts : List Tel) (k : Str) : List LRow := ts.foldl (lstep k) []
theorem lineOf_nil (k : Str) : lineOf [] k = [] := rfl
theorem lineOf_snoc (ts : List Tel) (t : Tel) (k : Str) : lineOf (ts ++ [t]) k = if t.key = k then putL (lineOf ts k) t.b t.e (tl t.w) else lineOf ts k := by
  unfold lineOf
  rw [List.foldl_append]
  rfl
theorem snoc_ind {α : Type} {p : List α → Prop} (h0 : p []) (hs : ∀ l a, p l → p (l ++ [a])) (l : List α) : p l := by
  have : ∀ (n : Nat) (l : List α), l.length = n → p l := by
    intro n
    induction n with
    | zero =>
      intro l h
      rw [List.length_eq_zero_iff.mp h]
      exact h0
    | succ n ih =>
      intro l h
      rcases snoc_cases l with rfl | ⟨q, a, rfl⟩
      · exact h0
      · exact hs q a (ih q (by simpa using h))
  exact this _ l rfl
structure Good (l : List LRow) : Prop where
  can : Can 0 none l
  fil : Fil l
  ok : ∀ r ∈ l, okSt (rst r)
theorem Good.prp {l : List LRow} (h : Good l) : Prp 0 l := h.can.prp
theorem Good.sing {l : List LRow} (h : Good l) : Sing l := h.fil.sing
theorem Good.nil : Good [] := ⟨trivial, Fil.nil, by simp⟩
theorem Good.put {l : List LRow} (h : Good l) {b : Int} {e : Option Int} {w : Option Str} (ok : okSt (b, e)) : Good (putL l b e (tl w)) := ⟨putL_can h.prp ok, h.fil.put h.prp ok, okL_put h.ok h.prp ok⟩
theorem Good.ext {l m : List LRow} (h : Good l) (g : Good m) (e : ∀ x, wAt l x = wAt m x) : l = m := wuniq h.can g.can h.fil g.fil e
theorem lineOf_good {k : Str} : ∀ {ts : List Tel}, (∀ t ∈ ts, okTel t) → Good (lineOf ts k) := fun {ts} => snoc_ind (p := fun ts => (∀ t ∈ ts, okTel t) → Good (lineOf ts k)) (fun _ => Good.nil) (fun ts t ih h => by
  rw [lineOf_snoc]
  have h1 := ih fun q hq => h q (by simp [hq])
  split
  · exact h1.put (h t (by simp)).st
  · exact h1) ts
theorem lineOf_len {k : Str} : ∀ {ts : List Tel}, (∀ t ∈ ts, okTel t) → (lineOf ts k).length ≤ 2 * ts.length := fun {ts} => snoc_ind (p := fun ts => (∀ t ∈ ts, okTel t) → (lineOf ts k).length ≤ 2 * ts.length) (fun _ => by simp [lineOf]) (fun ts t ih h => by
  rw [lineOf_snoc]
  have h0 : ∀ q ∈ ts, okTel q := fun q hq => h q (by simp [hq])
  have h1 := ih h0
  split
  · have := putL_len2 (w := tl t.w) (lineOf_good (k := k) h0).prp (h t (by simp)).st
    simp
    omega
  · simp
    omega) ts
/-- the worth that the last telling gives -/
def told (ts : List Tel) (k : Str) (m : Int) : Option Str := ts.foldl (fun o t => if t.key = k ∧ inSt (t.b, t.e) m = true then t.w else o) none
theorem told_snoc (ts : List Tel) (t : Tel) (k : Str) (m : Int) : told (ts ++ [t]) k m = if t.key = k ∧ inSt (t.b, t.e) m = true then t.w else told ts k m := by
  unfold told
  rw [List.foldl_append]
  rfl
theorem lineOf_wAt {k : Str} {m : Int} : ∀ {ts : List Tel}, (∀ t ∈ ts, okTel t) → wAt (lineOf ts k) m = told ts k m := fun {ts} => snoc_ind (p := fun ts => (∀ t ∈ ts, okTel t) → wAt (lineOf ts k) m = told ts k m) (fun _ => rfl) (fun ts t ih h => by
  have h0 : ∀ q ∈ ts, okTel q := fun q hq => h q (by simp [hq])
  rw [lineOf_snoc, told_snoc]
  by_cases c : t.key = k
  · rw [if_pos c, putL_wAt (lineOf_good h0).prp (h t (by simp)).st, ih h0]
    by_cases d : inSt (t.b, t.e) m = true
    · rw [if_pos d, if_pos ⟨c, d⟩]
    · rw [if_neg d, if_neg fun z => d z.2]
  · rw [if_neg c, if_neg fun z => c z.1, ih h0]) ts
def keysOf (ts : List Tel) : List Str := ts.foldl (fun ks t => addK ks t.key) []
theorem keysOf_snoc (ts : List Tel) (t : Tel) : keysOf (ts ++ [t]) = addK (keysOf ts) t.key := by
  unfold keysOf
  rw [List.foldl_append]
  rfl
theorem keysOf_nodup (ts : List Tel) : (keysOf ts).Nodup := snoc_ind (p := fun ts => (keysOf ts).Nodup) List.nodup_nil (fun ts t ih => by rw [keysOf_snoc]; exact addK_nodup ih) ts
theorem keysOf_len (ts : List Tel) : (keysOf ts).length ≤ ts.length := snoc_ind (p := fun ts => (keysOf ts).length ≤ ts.length) (Nat.le_refl _) (fun ts t ih => by
  rw [keysOf_snoc]
  have := addK_len (keysOf ts) t.key
  simp
  omega) ts
theorem keysOf_mem {ts : List Tel} {k : Str} : k ∈ keysOf ts ↔ ∃ t ∈ ts, t.key = k := snoc_ind (p := fun ts => k ∈ keysOf ts ↔ ∃ t ∈ ts, t.key = k) (by simp [keysOf]) (fun ts t ih => by
  rw [keysOf_snoc, addK_mem, ih]
  constructor
  · rintro (⟨q, hq, e⟩ | rfl)
    · exact ⟨q, by simp [hq], e⟩
    · exact ⟨t, by simp, rfl⟩
  · rintro ⟨q, hq, e⟩
    rcases List.mem_append.mp hq with z | z
    · exact .inl ⟨q, z, e⟩
    · simp at z
      subst z
      exact .inr e.symm) ts
theorem lineOf_other {ts : List Tel} {k : Str} (h : k ∉ keysOf ts) : lineOf ts k = [] := by
  revert h
  refine snoc_ind (p := fun ts => k ∉ keysOf ts → lineOf ts k = []) (fun _ => rfl) (fun ts t ih h => ?_) ts
  rw [keysOf_snoc, addK_mem] at h
  rw [lineOf_snoc, if_neg fun z => h (.inr z.symm)]
  exact ih fun z => h (.inl z)
theorem fm_congr {α β : Type} {f g : α → Option β} : ∀ {l : List α}, (∀ x ∈ l, f x = g x) → l.filterMap f = l.filterMap g
  | [], _ => rfl
  | a :: l, h => by rw [List.filterMap_cons, List.filterMap_cons, h a List.mem_cons_self, fm_congr fun x hx => h x (List.mem_cons_of_mem _ hx)]
/-- the lines as they became, with the knowings -/
def becOf (ts : List Tel) (k : Str) : List (Nat × List LRow) := (List.range ts.length).filterMap fun i => if (ts[i]?.map Tel.key) = some k then some (i + 1, lineOf (ts.take (i + 1)) k) else none
theorem becOf_snoc (ts : List Tel) (t : Tel) (k : Str) : becOf (ts ++ [t]) k = becOf ts k ++ if t.key = k then [(ts.length + 1, lineOf (ts ++ [t]) k)] else [] := by
  unfold becOf
  rw [List.length_append, List.length_singleton, List.range_succ, List.filterMap_append]
  congr 1
  · refine fm_congr fun i hi => ?_
    have hi : i < ts.length := by simpa using hi
    rw [List.getElem?_append_left hi, List.take_append_of_le_length (by omega)]
  · simp only [List.filterMap_cons, List.filterMap_nil, List.getElem?_append_right (Nat.le_refl _), Nat.sub_self, List.getElem?_cons_zero, Option.map_some, Option.some.injEq]
    rw [List.take_of_length_le (by simp)]
    split <;> simp_all
theorem becOf_len (ts : List Tel) (k : Str) : (becOf ts k).length ≤ ts.length := by
  have := List.length_filterMap_le (fun i => if (ts[i]?.map Tel.key) = some k then some (i + 1, lineOf (ts.take (i + 1)) k) else none) (List.range ts.length)
  simpa [becOf] using this
theorem becOf_other {ts : List Tel} {k : Str} (h : k ∉ keysOf ts) : becOf ts k = [] := by
  revert h
  refine snoc_ind (p := fun ts => k ∉ keysOf ts → becOf ts k = []) (fun _ => rfl) (fun ts t ih h => ?_) ts
  rw [keysOf_snoc, addK_mem] at h
  rw [becOf_snoc, if_neg fun z => h (.inr z.symm), List.append_nil]
  exact ih fun z => h (.inl z)
theorem bec_pick (k : Str) (kn : Nat) (ts : List Tel) : (becOf ts k).foldl (fun l p => if p.1 ≤ kn then p.2 else l) [] = lineOf (ts.take kn) k := by
  refine snoc_ind (p := fun ts => (becOf ts k).foldl (fun l p => if p.1 ≤ kn then p.2 else l) [] = lineOf (ts.take kn) k) (by simp [becOf, lineOf]) (fun ts t ih => ?_) ts
  rw [becOf_snoc, List.foldl_append, ih]
  by_cases c : ts.length + 1 ≤ kn
  · rw [List.take_of_length_le (show (ts ++ [t]).length ≤ kn by simp; omega), List.take_of_length_le (show ts.length ≤ kn by omega)]
    split
    · simp [c]
    · rename_i d
      rw [lineOf_snoc, if_neg d]
      rfl
  · rw [List.take_append_of_le_length (by omega)]
    split
    · simp [c]
    · rfl
def becD (p : Nat × List LRow) : D := .tup [.int p.1, .lst (p.2.map rowD)]
end Tw

set_option Elab.async false
set_option linter.all false
set_option maxRecDepth 100000
set_option maxHeartbeats 4000000
namespace Tw
open PySem PySem.Spec PyProof.Rows L2
/-! ### tiles -/
structure Tile where
  key : Str
  w : Str
  b : Int
  e : Option Int
  s : Nat
  u : Option Nat
deriving DecidableEq
def oN : Option Nat → D
  | none => .non
  | some i => .int i
def tileD (t : Tile) : D := .tup [.str t.key, .str t.w, .int t.b, oD t.e, .int t.s, oN t.u]
def Tile.run (t : Tile) : LRow := (t.b, t.e, [some t.w])
def tileEnd (kn : Nat) (line : List LRow) (t : Tile) : Tile := if t.u = none ∧ t.run ∉ line then { t with u := some kn } else t
def tileNew (key : Str) (kn : Nat) (r : LRow) : Tile := ⟨key, (worthOf (some r.2.2)).getD "", r.1, r.2.1, kn, none⟩
def tilesStep (key : Str) (kn : Nat) (stood line : List LRow) (tiles : List Tile) : List Tile := tiles.map (tileEnd kn line) ++ (line.filter fun r => decide (r ∉ stood)).map (tileNew key kn)
def tilesF (k : Str) (st : List Tel × List Tile) (t : Tel) : List Tel × List Tile := (st.1 ++ [t], if t.key = k then tilesStep k (st.1.length + 1) (lineOf st.1 k) (lineOf (st.1 ++ [t]) k) st.2 else st.2)
def tilesK (ts : List Tel) (k : Str) : List Tile := (ts.foldl (tilesF k) ([], [])).2
theorem tilesK_fst (k : Str) (ts : List Tel) : (ts.foldl (tilesF k) ([], [])).1 = ts := snoc_ind (p := fun ts => (ts.foldl (tilesF k) ([], [])).1 = ts) rfl (fun ts t ih => by rw [List.foldl_append]; show (ts.foldl (tilesF k) ([], [])).1 ++ [t] = _; rw [ih]) ts
theorem tilesK_snoc (ts : List Tel) (t : Tel) (k : Str) : tilesK (ts ++ [t]) k = if t.key = k then tilesStep k (ts.length + 1) (lineOf ts k) (lineOf (ts ++ [t]) k) (tilesK ts k) else tilesK ts k := by
  unfold tilesK
  rw [List.foldl_append]
  show (tilesF k (ts.foldl (tilesF k) ([], [])) t).2 = _
  unfold tilesF
  simp only [tilesK_fst]
  rw [show (ts.foldl (fun st t => (st.1 ++ [t], if t.key = k then tilesStep k (st.1.length + 1) (lineOf st.1 k) (lineOf (st.1 ++ [t]) k) st.2 else st.2)) (([], []) : List Tel × List Tile)).1 = ts from tilesK_fst k ts]
/-- .. from a first knowing on -/
def forgetT (lo : Nat) (l : List Tile) : List Tile := (l.filter fun t => match t.u with
  | none => true
  | some u => decide (lo < u)).map fun t => { t with s := max t.s lo }
/-! ### sheets among the objects -/
def shFields (C : Str) (a c : Nat) (xs : List Nat) (lo : Nat) : List (Str × D) := if C = "Sheet" then [("told_so", .hnd a), ("became", .hnd c)] else
  ("told_so", .hnd a) :: ("became", .hnd (xs.headD 0)) :: ("by_key", .hnd c) :: if C = "Short" then [("lowest", .int (lo : Nat))] else []
/-- what a key's list holds -/
def keptOf (C : Str) (ts : List Tel) (lo : Nat) (k : Str) : List D := if C = "Sheet" then (becOf ts k).map becD else (forgetT lo (tilesK ts k)).map tileD
/-- a sheet of the class C at n: told so far td, kept ts, first knowing lo; all of its objects: fp -/
structure Sh (C : Str) (W : Wd) (fp : List Nat) (n : Nat) (td ts : List Tel) (lo : Nat) : Prop where
  cls : C ∈ (["Sheet", "Tiled", "Short"] : List Str)
  ok : ∀ t ∈ td, okTel t
  sub : ts = td ∨ ∃ t, td = ts ++ [t]
  z : td.length ≤ 900
  lo0 : C ≠ "Short" → lo = 0
  loz : lo ≤ ts.length
  ex : ∃ (a c : Nat) (hs xs : List Nat), fp = n :: a :: c :: (hs ++ xs) ∧ fp.Nodup ∧ (∀ i ∈ fp, i < W.length) ∧ W[n]? = some (.ins C (shFields C a c xs lo)) ∧ W[a]? = some (.lst (td.map telD)) ∧
    W[c]? = some (.dct ((keysOf ts).map Sum.inr) (hs.map D.hnd)) ∧ ((C = "Sheet" ∧ xs = []) ∨ (C ≠ "Sheet" ∧ ∃ b : Nat, xs = [b] ∧ W[b]? = some (.dct [] []))) ∧
    hs.length = (keysOf ts).length ∧ ∀ (i : Nat) (k : Str) (h : Nat), (keysOf ts)[i]? = some k → hs[i]? = some h → W[h]? = some (.lst (keptOf C ts lo k))
def Fr (W : Wd) (fp : List Nat) (W' : Wd) : Prop := W.length ≤ W'.length ∧ ∀ i, i < W.length → i ∉ fp → W'[i]? = W[i]?
theorem Fr.refl (W : Wd) (fp : List Nat) : Fr W fp W := ⟨Nat.le_refl _, fun _ _ _ => rfl⟩
theorem Fr.grow (W g : Wd) (fp : List Nat) : Fr W fp (W ++ g) := ⟨by simp, fun i hi _ => List.getElem?_append_left hi⟩
theorem Fr.trans {W W1 W2 : Wd} {fp : List Nat} (h : Fr W fp W1) (g : Fr W1 fp W2) : Fr W fp W2 := ⟨Nat.le_trans h.1 g.1, fun i hi hf => (g.2 i (Nat.lt_of_lt_of_le hi h.1) hf).trans (h.2 i hi hf)⟩
theorem Fr.set {W W1 : Wd} {fp : List Nat} (h : Fr W fp W1) {i : Nat} {o : O} (hi : i ∈ fp ∨ W.length ≤ i) : Fr W fp (W1.set i o) := ⟨by simpa using h.1, fun j hj hf => by
  have : i ≠ j := fun z => by
    subst z
    rcases hi with q | q
    · exact hf q
    · omega
  rw [List.getElem?_set_ne this]
  exact h.2 j hj hf⟩
theorem Fr.app {W W1 : Wd} {fp : List Nat} (h : Fr W fp W1) (g : Wd) : Fr W fp (W1 ++ g) := ⟨by simpa using Nat.le_trans h.1 (by simp), fun j hj hf => by
  rw [List.getElem?_append_left (Nat.lt_of_lt_of_le hj h.1)]
  exact h.2 j hj hf⟩
theorem Fr.sub {W W1 : Wd} {fp fp' : List Nat} (h : Fr W fp W1) (s : ∀ i ∈ fp, i ∈ fp' ∨ W.length ≤ i) : Fr W fp' W1 := ⟨h.1, fun i hi hf => h.2 i hi fun z => by
  rcases s i z with q | q
  · exact hf q
  · omega⟩
theorem Sh.lt {C : Str} {W : Wd} {fp : List Nat} {n : Nat} {td ts : List Tel} {lo : Nat} (h : Sh C W fp n td ts lo) : ∀ i ∈ fp, i < W.length := by
  obtain ⟨a, c, hs, xs, _, _, z, _⟩ := h.ex
  exact z
/-- a sheet's objects are as they were -/
theorem Sh.keep {C : Str} {W W' : Wd} {fp : List Nat} {n : Nat} {td ts : List Tel} {lo : Nat} (h : Sh C W fp n td ts lo) (e : ∀ i ∈ fp, W'[i]? = W[i]?) : Sh C W' fp n td ts lo := by
  obtain ⟨a, c, hs, xs, rfl, nd, z, w1, w2, w3, w4, hl, w5⟩ := h.ex
  refine ⟨h.cls, h.ok, h.sub, h.z, h.lo0, h.loz, a, c, hs, xs, rfl, nd, fun i hi => ?_, ?_, ?_, ?_, ?_, hl, fun i k q h1 h2 => ?_⟩
  · have e1 := e i hi
    rw [List.getElem?_eq_getElem (z i hi)] at e1
    exact (List.getElem?_eq_some_iff.mp e1).1
  · rw [e n (by simp)]; exact w1
  · rw [e a (by simp)]; exact w2
  · rw [e c (by simp)]; exact w3
  · rcases w4 with q | ⟨q, b, rfl, wb⟩
    · exact .inl q
    · exact .inr ⟨q, b, rfl, by rw [e b (by simp)]; exact wb⟩
  · have hq := List.mem_of_getElem? h2
    rw [e q (by simp [hq])]
    exact w5 i k q h1 h2
theorem Sh.fr {C : Str} {W W' : Wd} {fp fp' : List Nat} {n : Nat} {td ts : List Tel} {lo : Nat} (h : Sh C W fp n td ts lo) (f : Fr W fp' W') (dj : ∀ i ∈ fp, i ∉ fp') : Sh C W' fp n td ts lo := h.keep fun i hi => f.2 i (h.lt i hi) (dj i hi)
theorem Sh.grow {C : Str} {W : Wd} {fp : List Nat} {n : Nat} {td ts : List Tel} {lo : Nat} (h : Sh C W fp n td ts lo) (g : Wd) : Sh C (W ++ g) fp n td ts lo := h.keep fun i hi => List.getElem?_append_left (h.lt i hi)
theorem Sh.isA {C : Str} {W : Wd} {fp : List Nat} {n : Nat} {td ts : List Tel} {lo : Nat} (h : Sh C W fp n td ts lo) : isA W n C := by
  obtain ⟨a, c, hs, xs, _, _, _, w, _⟩ := h.ex
  exact ⟨_, w⟩
theorem Sh.okts {C : Str} {W : Wd} {fp : List Nat} {n : Nat} {td ts : List Tel} {lo : Nat} (h : Sh C W fp n td ts lo) : ∀ t ∈ ts, okTel t := by
  rcases h.sub with e | ⟨t, e⟩
  · rw [e]; exact h.ok
  · exact fun q hq => h.ok q (by rw [e]; simp [hq])
theorem Sh.zts {C : Str} {W : Wd} {fp : List Nat} {n : Nat} {td ts : List Tel} {lo : Nat} (h : Sh C W fp n td ts lo) : ts.length ≤ 900 := by
  have := h.z
  rcases h.sub with e | ⟨t, e⟩
  · rw [e]; exact this
  · rw [e] at this
    simp at this
    omega
/-! ### what the methods of sheets promise -/
def M_Sheet_knowings : FC := fun ds W P _ => ∃ C n fp ts lo, ds = [.hnd n] ∧ Sh C W fp n ts ts lo ∧ P (.int (ts.length : Nat)) W
def M_Sheet_first : FC := fun ds W P _ => ∃ C n fp ts lo, ds = [.hnd n] ∧ Sh C W fp n ts ts lo ∧ P (.int (lo : Nat)) W
def noKn : Exn := ⟨"NoKnowing", none⟩
def noNm : Exn := ⟨"NoName", none⟩
def noSt : Exn := ⟨"NoStretch", none⟩
def noFg : Exn := ⟨"Forgotten", none⟩
def knAsk (ts : List Tel) (lo : Nat) (k : Int) (X : Exn → Prop) (P : Prop) : Prop := if 0 ≤ k ∧ k ≤ (ts.length : Nat) then if k < (lo : Nat) then X noFg else P else X noKn
def M_Sheet_need_knowing : FC := fun ds W P X => ∃ C n fp ts lo k, ds = [.hnd n, .int k] ∧ Sh C W fp n ts ts lo ∧ knAsk ts lo k (fun x => X x W) (P .non W)
def M_Sheet_need_key : FC := fun ds W P X => ∃ n d, ds = [.hnd n, d] ∧ plainD d = true ∧ if isNm d = true then P .non W else X noNm W
def M_Sheet_line_of : FC := fun ds W P _ => ∃ C n fp td ts lo key, ∃ k : Nat, ds = [.hnd n, .str key, .int k] ∧ Sh C W fp n td ts lo ∧ lo ≤ k ∧ k ≤ ts.length ∧ lstR P W ((lineOf (ts.take k) key).map rowD)
def M_Sheet_line_at : FC := fun ds W P X => ∃ C n fp ts lo kd k, ds = [.hnd n, kd, .int k] ∧ plainD kd = true ∧ Sh C W fp n ts ts lo ∧
  knAsk ts lo k (fun x => X x W) (if isNm kd = true then ∀ key, kd = .str key → lstR P W ((lineOf (ts.take k.toNat) key).map rowD) else X noNm W)
def M_Sheet_worth_at : FC := fun ds W P X => ∃ C n fp ts lo kd md k, ds = [.hnd n, kd, md, .int k] ∧ plainD kd = true ∧ plainD md = true ∧ Sh C W fp n ts ts lo ∧
  knAsk ts lo k (fun x => X x W) (if isNm kd = true then if isMo md = true then ∀ key m, kd = .str key → md = .int m → P (oS (told (ts.take k.toNat) key m)) W else X noSt W else X noNm W)
def M_Sheet_line_behind : FC := fun ds W P _ => ∃ C n fp ts lo t, ∃ k : Nat, ds = [.hnd n, telD t, .int k] ∧ Sh C W fp n (ts ++ [t]) ts lo ∧ k = ts.length + 1 ∧ lstR P W ((lineOf (ts ++ [t]) t.key).map rowD)
def M_Sheet_take_in : FC := fun ds W P _ => ∃ C n fp ts lo t, ∃ k : Nat, ds = [.hnd n, telD t, .int k] ∧ Sh C W fp n (ts ++ [t]) ts lo ∧ k = ts.length + 1 ∧ ts.length < 900 ∧
  ∀ W' fp', Sh C W' fp' n (ts ++ [t]) (ts ++ [t]) lo → Fr W fp W' → (∀ i ∈ fp', i ∈ fp ∨ W.length ≤ i) → P .non W'
/-- a telling that is told -/
def M_Sheet_tell : FC := fun ds W P X => ∃ C n fp ts lo, Sh C W fp n ts ts lo ∧ ts.length < 900 ∧ (
  (∃ t, ds = [.hnd n, telD t] ∧ okTel t ∧ ∀ W' fp', Sh C W' fp' n (ts ++ [t]) (ts ++ [t]) lo → Fr W fp W' → (∀ i ∈ fp', i ∈ fp ∨ W.length ≤ i) → P (.int ((ts.length + 1 : Nat) : Int)) W') ∨
  ∃ (kd : D) (ws : List D) (b e : D), ds = [.hnd n, .tup (kd :: ws ++ [b, e])] ∧ ws.length ≤ 100 ∧ (∀ w ∈ ws, plainD w = true) ∧ plainD b = true ∧ plainD e = true ∧
    if ws.all isNm = true then isStc b e = false ∧ X noSt W else X noNm W)
theorem shF_told {C : Str} {a c lo : Nat} {xs : List Nat} : (shFields C a c xs lo).lookup ("told_so" : Str) = some (D.hnd a) := by
  unfold shFields
  split <;> rfl
theorem shF_bec {a c lo : Nat} {xs : List Nat} : (shFields "Sheet" a c xs lo).lookup ("became" : Str) = some (D.hnd c) := rfl
theorem shF_none {C m : Str} {a c lo : Nat} {xs : List Nat} (h : m ∉ (["told_so", "became", "by_key", "lowest"] : List Str)) : (shFields C a c xs lo).lookup m = none := by
  simp only [List.mem_cons, List.not_mem_nil, or_false, not_or] at h
  obtain ⟨h1, h2, h3, h4⟩ := h
  have e1 : (m == ("told_so" : Str)) = false := by simpa using h1
  have e2 : (m == ("became" : Str)) = false := by simpa using h2
  have e3 : (m == ("by_key" : Str)) = false := by simpa using h3
  have e4 : (m == ("lowest" : Str)) = false := by simpa using h4
  unfold shFields
  split
  · simp [List.lookup, e1, e2]
  · split <;> simp [List.lookup, e1, e2, e3, e4]
/-- a method of a sheet is asked -/
theorem Sh.meth {C : Str} {W : Wd} {fp : List Nat} {n : Nat} {td ts : List Tel} {lo : Nat} {m : Str} {tbl : Tbl} {ga : M (List D)} {U : List Str} {c : FC} {σ : List (Option D)} {P : D → AS → Prop} {X : XA} (h : Sh C W fp n td ts lo) (hp : (U, c) ∈ tbl) (hC : C ∈ U)
    (q : ga ⟨σ, W⟩ (fun ds S1 => Tw.isA S1.W n C ∧ c (.hnd n :: ds) S1.W (fun d W => P d ⟨S1.σ, W⟩) (fun x W => X x ⟨S1.σ, W⟩)) X) (hm : m ∉ (["told_so", "became", "by_key", "lowest"] : List Str) := by decide) : dMeth m tbl ga (.hnd n) ⟨σ, W⟩ P X := by
  obtain ⟨a, c', hs, xs, _, _, _, w, _⟩ := h.ex
  exact meth_go w (shF_none hm) hp hC q
theorem valD_strs {k : Str} : ∀ {ks : List Str} {vs : List D}, ks.length = vs.length → (k ∉ ks ∧ valD (ks.map Sum.inr) vs (.inr k) = none) ∨ ∃ (i : Nat) (v : D), ks[i]? = some k ∧ vs[i]? = some v ∧ valD (ks.map Sum.inr) vs (.inr k) = some v
  | [], [], _ => .inl ⟨by simp, by simp [valD]⟩
  | [], _ :: _, h => by simp at h
  | _ :: _, [], h => by simp at h
  | k0 :: ks, v :: vs, h => by
    by_cases c : k0 = k
    · subst c
      exact .inr ⟨0, v, rfl, rfl, by simp [valD]⟩
    · have e : valD ((k0 :: ks).map Sum.inr) (v :: vs) (.inr k) = valD (ks.map Sum.inr) vs (.inr k) := by simp [valD, c]
      rw [e]
      rcases valD_strs (k := k) (ks := ks) (vs := vs) (by simpa using h) with ⟨h1, h2⟩ | ⟨i, u, h1, h2, h3⟩
      · exact .inl ⟨by simp [h1]; exact fun z => c z.symm, h2⟩
      · exact .inr ⟨i + 1, u, h1, h2, h3⟩
/-- the list of a key -/
theorem Sh.kept {C : Str} {W : Wd} {hs : List Nat} {ts : List Tel} {lo : Nat} {k : Str} (hl : hs.length = (keysOf ts).length) (hw : ∀ (i : Nat) (k : Str) (h : Nat), (keysOf ts)[i]? = some k → hs[i]? = some h → W[h]? = some (.lst (keptOf C ts lo k))) :
    (k ∉ keysOf ts ∧ valD ((keysOf ts).map Sum.inr) (hs.map D.hnd) (.inr k) = none) ∨ ∃ (i h : Nat), (keysOf ts)[i]? = some k ∧ hs[i]? = some h ∧ W[h]? = some (.lst (keptOf C ts lo k)) ∧ valD ((keysOf ts).map Sum.inr) (hs.map D.hnd) (.inr k) = some (.hnd h) := by
  rcases valD_strs (k := k) (ks := keysOf ts) (vs := hs.map D.hnd) (by simpa using hl.symm) with q | ⟨i, v, h1, h2, h3⟩
  · exact .inl q
  · rw [List.getElem?_map, Option.map_eq_some_iff] at h2
    obtain ⟨h, e1, rfl⟩ := h2
    exact .inr ⟨i, h, h1, e1, hw i k h h1 e1, h3⟩
theorem lstR_done {W : Wd} {P : D → Wd → Prop} {l : List D} (h : lstR P W l) : lstR (fun d W1 => Done W P d W1) W l := by
  rcases h with h | h
  · exact .inl (.inl h)
  · exact .inr (.inl h)
theorem atI5m1 {α : Type} (a b c d e : α) : atI [a, b, c, d, e] (-1) = some e := rfl
theorem atI5m2 {α : Type} (a b c d e : α) : atI [a, b, c, d, e] (-2) = some d := rfl
theorem atI4m1 {α : Type} (a b c d : α) : atI [a, b, c, d] (-1) = some d := rfl
theorem atI4m2 {α : Type} (a b c d : α) : atI [a, b, c, d] (-2) = some c := rfl
theorem get_none {o kd x : D} {ks : List Key} {l : List D} {kk : Key} {S : AS} {P : D → AS → Prop} {X : XA} (hd : rdD S.W o = some (ks, l)) (hk : toKey kd = some kk) (hv : valD ks l kk = none) (h : P x S) : getD2 o kd x S P X := by
  unfold getD2
  rw [hd, hk]
  simp only
  rw [hv]
  exact h
theorem get_some {o kd x d : D} {ks : List Key} {l : List D} {kk : Key} {S : AS} {P : D → AS → Prop} {X : XA} (hd : rdD S.W o = some (ks, l)) (hk : toKey kd = some kk) (hv : valD ks l kk = some d) (h : P d S) : getD2 o kd x S P X := by
  unfold getD2
  rw [hd, hk]
  simp only
  rw [hv]
  exact h
theorem rdD_hnd {W : Wd} {c : Nat} {ks : List Key} {l : List D} (h : W[c]? = some (.dct ks l)) : rdD W (.hnd c) = some (ks, l) := by simp only [rdD, h]
end Tw

set_option Elab.async false
set_option linter.all false
set_option maxRecDepth 100000
set_option maxHeartbeats 4000000
namespace Tw
open PySem PySem.Spec PyProof.Rows L2
theorem addK_in {α : Type} [DecidableEq α] {ks : List α} {k : α} (h : k ∈ ks) : addK ks k = ks := if_pos h
theorem addK_out {α : Type} [DecidableEq α] {ks : List α} {k : α} (h : k ∉ ks) : addK ks k = ks ++ [k] := if_neg h
theorem nodup_get {α : Type} {l : List α} (h : l.Nodup) {i j : Nat} {a : α} (hi : l[i]? = some a) (hj : l[j]? = some a) : i = j := by
  obtain ⟨h1, e1⟩ := List.getElem?_eq_some_iff.mp hi
  obtain ⟨h2, e2⟩ := List.getElem?_eq_some_iff.mp hj
  exact (List.getElem_inj h).mp (e1.trans e2.symm)
theorem tookA {W : Wd} {n a c : Nat} {hs : List Nat} {ts : List Tel} {t : Tel} {lo i hh : Nat} (sh : Sh "Sheet" W (n :: a :: c :: (hs ++ [])) n (ts ++ [t]) ts lo) (nd : (n :: a :: c :: (hs ++ [])).Nodup)
    (w1 : W[n]? = some (.ins "Sheet" (shFields "Sheet" a c [] lo))) (w2 : W[a]? = some (.lst ((ts ++ [t]).map telD))) (w3 : W[c]? = some (.dct ((keysOf ts).map Sum.inr) (hs.map D.hnd))) (hl : hs.length = (keysOf ts).length)
    (w5 : ∀ (i : Nat) (k : Str) (h : Nat), (keysOf ts)[i]? = some k → hs[i]? = some h → W[h]? = some (.lst (keptOf "Sheet" ts lo k))) (hk : (keysOf ts)[i]? = some t.key) (hi : hs[i]? = some hh) :
    Sh "Sheet" (W.set hh (.lst (keptOf "Sheet" (ts ++ [t]) lo t.key))) (n :: a :: c :: (hs ++ [])) n (ts ++ [t]) (ts ++ [t]) lo := by
  have hm := List.mem_of_getElem? hi
  simp only [List.append_nil, List.nodup_cons, List.mem_cons, not_or] at nd
  obtain ⟨⟨n1, n2, n3⟩, ⟨n4, n5⟩, n6, n7⟩ := nd
  have hkm : t.key ∈ keysOf ts := List.mem_of_getElem? hk
  have hke : keysOf (ts ++ [t]) = keysOf ts := by rw [keysOf_snoc, addK_in hkm]
  have e0 := sh.lo0 (by decide)
  refine ⟨sh.cls, sh.ok, .inl rfl, sh.z, fun _ => e0, by omega, a, c, hs, [], rfl, ?_, fun j hj => by simpa using sh.lt j hj, ?_, ?_, ?_, .inl ⟨rfl, rfl⟩, by rw [hke]; exact hl, fun j k h h1 h2 => ?_⟩
  · simp only [List.append_nil, List.nodup_cons, List.mem_cons, not_or]
    exact ⟨⟨n1, n2, n3⟩, ⟨n4, n5⟩, n6, n7⟩
  · rw [List.getElem?_set_ne (fun z => n3 (by rw [← z]; exact hm))]; exact w1
  · rw [List.getElem?_set_ne (fun z => n5 (by rw [← z]; exact hm))]; exact w2
  · rw [List.getElem?_set_ne (fun z => n6 (by rw [← z]; exact hm)), hke]; exact w3
  · rw [hke] at h1
    by_cases d : k = t.key
    · subst d
      obtain rfl := nodup_get (keysOf_nodup ts) h1 hk
      rw [hi] at h2; cases h2
      rw [List.getElem?_set_self (sh.lt hh (by simp [hm]))]
    · have hne : hh ≠ h := fun z => by
        subst z
        obtain rfl := nodup_get n7 h2 hi
        rw [hk] at h1; cases h1
        exact d rfl
      rw [List.getElem?_set_ne hne, w5 j k h h1 h2]
      have : becOf (ts ++ [t]) k = becOf ts k := by rw [becOf_snoc, if_neg fun z => d z.symm, List.append_nil]
      show some (O.lst ((becOf ts k).map becD)) = some (O.lst ((becOf (ts ++ [t]) k).map becD))
      rw [this]
theorem tookB {W : Wd} {n a c : Nat} {hs : List Nat} {ts : List Tel} {t : Tel} {lo : Nat} (sh : Sh "Sheet" W (n :: a :: c :: (hs ++ [])) n (ts ++ [t]) ts lo) (nd : (n :: a :: c :: (hs ++ [])).Nodup)
    (w1 : W[n]? = some (.ins "Sheet" (shFields "Sheet" a c [] lo))) (w2 : W[a]? = some (.lst ((ts ++ [t]).map telD))) (w3 : W[c]? = some (.dct ((keysOf ts).map Sum.inr) (hs.map D.hnd))) (hl : hs.length = (keysOf ts).length)
    (w5 : ∀ (i : Nat) (k : Str) (h : Nat), (keysOf ts)[i]? = some k → hs[i]? = some h → W[h]? = some (.lst (keptOf "Sheet" ts lo k))) (hk : t.key ∉ keysOf ts) :
    Sh "Sheet" (W.set c (.dct ((keysOf ts ++ [t.key]).map Sum.inr) ((hs ++ [W.length]).map D.hnd)) ++ [.lst (keptOf "Sheet" (ts ++ [t]) lo t.key)]) (n :: a :: c :: (hs ++ [W.length] ++ [])) n (ts ++ [t]) (ts ++ [t]) lo := by
  have nd0 := nd
  simp only [List.append_nil, List.nodup_cons, List.mem_cons, not_or] at nd
  obtain ⟨⟨n1, n2, n3⟩, ⟨n4, n5⟩, n6, n7⟩ := nd
  have hke : keysOf (ts ++ [t]) = keysOf ts ++ [t.key] := by rw [keysOf_snoc, addK_out hk]
  have e0 := sh.lo0 (by decide)
  have ln := sh.lt n (by simp)
  have la := sh.lt a (by simp)
  have lc := sh.lt c (by simp)
  have lh : ∀ h ∈ hs, h < W.length := fun h hh => sh.lt h (by simp [hh])
  refine ⟨sh.cls, sh.ok, .inl rfl, sh.z, fun _ => e0, by omega, a, c, hs ++ [W.length], [], rfl, ?_, fun j hj => ?_, ?_, ?_, ?_, .inl ⟨rfl, rfl⟩, by rw [hke]; simp [hl], fun j k h h1 h2 => ?_⟩
  · simp only [List.append_nil, List.nodup_cons, List.mem_cons, List.mem_append, List.mem_singleton, not_or, List.nodup_append]
    refine ⟨⟨n1, n2, n3, Nat.ne_of_lt ln, by simp⟩, ⟨n4, n5, Nat.ne_of_lt la, by simp⟩, ⟨n6, Nat.ne_of_lt lc, by simp⟩, n7, by simp, fun x hx y hy => ?_⟩
    have hy : y = W.length := by simpa using hy
    rw [hy]
    exact Nat.ne_of_lt (lh x hx)
  · simp only [List.append_nil, List.mem_cons, List.mem_append, List.not_mem_nil, or_false] at hj
    simp only [List.length_append, List.length_set, List.length_singleton]
    rcases hj with rfl | rfl | rfl | hj | rfl
    · omega
    · omega
    · omega
    · have := lh j hj; omega
    · omega
  · rw [List.getElem?_append_left (by simpa using ln), List.getElem?_set_ne (fun z => n2 z.symm)]; exact w1
  · rw [List.getElem?_append_left (by simpa using la), List.getElem?_set_ne (fun z => n4 z.symm)]; exact w2
  · rw [List.getElem?_append_left (by simpa using lc), List.getElem?_set_self lc, hke]
  · rw [hke] at h1
    by_cases d : j < (keysOf ts).length
    · rw [List.getElem?_append_left d] at h1
      rw [List.getElem?_append_left (by omega)] at h2
      have hkn : k ≠ t.key := fun z => hk (z ▸ List.mem_of_getElem? h1)
      have hm := List.mem_of_getElem? h2
      rw [List.getElem?_append_left (by simpa using lh h hm), List.getElem?_set_ne (fun z => n6 (by rw [z]; exact hm)), w5 j k h h1 h2]
      have : becOf (ts ++ [t]) k = becOf ts k := by rw [becOf_snoc, if_neg fun z => hkn z.symm, List.append_nil]
      show some (O.lst ((becOf ts k).map becD)) = some (O.lst ((becOf (ts ++ [t]) k).map becD))
      rw [this]
    · have hj : j = (keysOf ts).length := by
        have := (List.getElem?_eq_some_iff.mp h1).1
        simp at this
        omega
      subst hj
      rw [List.getElem?_append_right (Nat.le_refl _), Nat.sub_self] at h1
      rw [← hl, List.getElem?_append_right (Nat.le_refl _), Nat.sub_self] at h2
      simp at h1 h2
      subst h1; subst h2
      rw [List.getElem?_append_right (by simp)]
      simp
theorem putD_out {ks : List Str} {vs : List D} {k : Str} {d : D} (h : k ∉ ks) : putD (ks.map Sum.inr) vs (.inr k) d = ((ks ++ [k]).map Sum.inr, vs ++ [d]) := by
  unfold putD
  rw [if_neg]
  · simp
  · simp only [List.any_map, List.any_eq_true, Function.comp, decide_eq_true_eq, not_exists, not_and]
    intro x hx e
    cases e
    exact h hx
theorem valD_last {k : Str} {v : D} : ∀ {ks : List Str} {vs : List D}, ks.length = vs.length → k ∉ ks → valD ((ks ++ [k]).map Sum.inr) (vs ++ [v]) (.inr k) = some v
  | [], [], _, _ => by simp [valD]
  | [], _ :: _, h, _ => by simp at h
  | _ :: _, [], h, _ => by simp at h
  | k0 :: ks, u :: vs, h, hk => by
    simp only [List.mem_cons, not_or] at hk
    have : valD ((k0 :: ks ++ [k]).map Sum.inr) (u :: vs ++ [v]) (.inr k) = valD ((ks ++ [k]).map Sum.inr) (vs ++ [v]) (.inr k) := by simp [valD, Ne.symm hk.1]
    rw [this]
    exact valD_last (by simpa using h) hk.2
/-! ### a telling's middle -/
theorem cut_mid (k : D) (ws : List D) (b e : D) : cutD (k :: ws ++ [b, e]) (some 1) (some (-2)) = ws := by
  unfold cutD
  have e1 : HT.sIx (k :: ws ++ [b, e]).length 0 (some 1) = 1 := by
    have := HT.sIx_nat (k :: ws ++ [b, e]).length 0 1
    rw [show ((1 : Nat) : Int) = 1 from rfl] at this
    rw [this]
    simp
  have e2 : HT.sIx (k :: ws ++ [b, e]).length (k :: ws ++ [b, e]).length (some (-2)) = ws.length + 1 := by
    show (if (-2 : Int) < 0 then ((-2 : Int) + ((k :: ws ++ [b, e]).length : Int)).toNat else min (-2 : Int).toNat (k :: ws ++ [b, e]).length) = _
    rw [if_pos (by decide)]
    simp
    omega
  rw [e1, e2]
  simp
theorem cut_mid_ne (k : D) (ws : List D) (b e : D) : ¬ (HT.sIx (k :: ws ++ [b, e]).length 0 (some 1) = 0 ∧ HT.sIx (k :: ws ++ [b, e]).length (k :: ws ++ [b, e]).length (some (-2)) = (k :: ws ++ [b, e]).length) := by
  rintro ⟨h, _⟩
  have := HT.sIx_nat (k :: ws ++ [b, e]).length 0 1
  rw [show ((1 : Nat) : Int) = 1 from rfl, h] at this
  simp at this
theorem atI_mid2 (k : D) (ws : List D) (b e : D) : atI (k :: ws ++ [b, e]) (-2) = some b := by
  have h : ixN (k :: ws ++ [b, e]).length (-2) = some (k :: ws).length := by
    unfold ixN
    simp only [List.length_append, List.length_cons, List.length_nil]
    split
    · omega
    · split <;> first | omega | (congr 1; omega)
  show (ixN (k :: ws ++ [b, e]).length (-2)).bind (fun j => (k :: ws ++ [b, e])[j]?) = some b
  rw [h, Option.bind_some, List.getElem?_append_right (Nat.le_refl _)]
  simp
theorem atI_mid1 (k : D) (ws : List D) (b e : D) : atI (k :: ws ++ [b, e]) (-1) = some e := by
  have h : ixN (k :: ws ++ [b, e]).length (-1) = some ((k :: ws).length + 1) := by
    unfold ixN
    simp only [List.length_append, List.length_cons, List.length_nil]
    split
    · omega
    · split <;> first | omega | (congr 1; omega)
  show (ixN (k :: ws ++ [b, e]).length (-1)).bind (fun j => (k :: ws ++ [b, e])[j]?) = some e
  rw [h, Option.bind_some, List.getElem?_append_right (by simp)]
  simp
theorem telD_mid (t : Tel) : ∃ k ws, telD t = .tup (k :: ws ++ [.int t.b, oD t.e]) ∧ ws.length ≤ 2 ∧ (okTel t → ws.all isNm = true) ∧ ∀ w ∈ ws, ∃ z, w = .str z := by
  obtain ⟨tk, tw, tb, te⟩ := t
  cases tw with
  | none => exact ⟨.str "clear", [.str tk], rfl, by simp, fun h => by simp [isNm, h.key], by simp⟩
  | some w => exact ⟨.str "put", [.str tk, .str w], rfl, by simp, fun h => by simp [isNm, h.key, h.w w rfl], by simp⟩
theorem isMo_int (i : Int) : isMo (.int i) = (decide (0 ≤ i) && decide (i ≤ 1000000000000)) := rfl
theorem isStc_ok {b : Int} {e : Option Int} (h : okSt (b, e)) : isStc (.int b) (oD e) = true := by
  have h1 := h.lo
  have h2 := h.hi
  simp only at h1 h2
  unfold isStc
  rw [isMo_int]
  cases e with
  | none => simp [h1, h2, isNon, oD]
  | some e =>
    have := h.en e rfl
    simp only at this
    simp only [oD, isMo_int, gtD]
    simp [h1, h2, this]
    omega
theorem plain_name {s : Str} (h : isNameS s = true) : plainD (.str s) = true := by
  unfold isNameS at h
  simp at h
  simp [plainD]
  omega
theorem plain_int (i : Int) : plainD (.int i) = true := rfl
theorem plain_oD (o : Option Int) : plainD (oD o) = true := by cases o <;> rfl
/-- one telling more in the list -/
theorem Sh.more {C : Str} {W : Wd} {fp : List Nat} {n : Nat} {ts : List Tel} {lo : Nat} (sh : Sh C W fp n ts ts lo) {t : Tel} (ok : okTel t) (hz : ts.length < 900) {a c : Nat} {xs : List Nat} (w1 : W[n]? = some (.ins C (shFields C a c xs lo))) :
    Sh C (W.set a (.lst ((ts ++ [t]).map telD))) fp n (ts ++ [t]) ts lo ∧ a ∈ fp := by
  obtain ⟨a', c', hs, xs', rfl, nd, hlt, v1, v2, v3, v4, hl, v5⟩ := sh.ex
  rw [w1] at v1
  have ea : a = a' := by
    have := Option.some.inj v1
    have h2 := (O.ins.inj this).2
    have h3 : (shFields C a c xs lo).lookup ("told_so" : Str) = (shFields C a' c' xs' lo).lookup ("told_so" : Str) := by rw [h2]
    rw [shF_told, shF_told] at h3
    cases h3
    rfl
  subst ea
  have v1 := v1.symm
  refine ⟨⟨sh.cls, ?_, .inr ⟨t, rfl⟩, by simp; omega, sh.lo0, sh.loz, a, c', hs, xs', rfl, nd, fun i hi => by simpa using hlt i hi, ?_, ?_, ?_, ?_, hl, fun i k h h1 h2 => ?_⟩, by simp⟩
  · intro q hq
    rcases List.mem_append.mp hq with z | z
    · exact sh.ok q z
    · simp at z; subst z; exact ok
  all_goals simp only [List.nodup_cons, List.mem_cons, List.mem_append, not_or] at nd
  · rw [List.getElem?_set_ne (fun z => nd.1.1 z.symm), w1]; exact v1.symm
  · rw [List.getElem?_set_self (hlt a (by simp))]
  · rw [List.getElem?_set_ne nd.2.1.1]; exact v3
  · rcases v4 with q | ⟨q, b, rfl, wb⟩
    · exact .inl q
    · exact .inr ⟨q, b, rfl, by rw [List.getElem?_set_ne (fun z => nd.2.1.2.2 (by simp [z]))]; exact wb⟩
  · have hm := List.mem_of_getElem? h2
    rw [List.getElem?_set_ne (fun z => nd.2.1.2.1 (by rw [z]; exact hm))]
    exact v5 i k h h1 h2
theorem knAsk.imp {ts : List Tel} {lo : Nat} {k : Int} {X X' : Exn → Prop} {P P' : Prop} (h : knAsk ts lo k X P) (hx : ∀ x, X x → X' x) (hp : 0 ≤ k → k ≤ (ts.length : Nat) → (lo : Int) ≤ k → P → P') : knAsk ts lo k X' P' := by
  unfold knAsk at h ⊢
  split
  · rename_i c
    rw [if_pos c] at h
    split
    · rename_i d
      rw [if_pos d] at h
      exact hx _ h
    · rename_i d
      rw [if_neg d] at h
      exact hp c.1 c.2 (by omega) h
  · rename_i c
    rw [if_neg c] at h
    exact hx _ h
theorem isNm_str {d : D} (h : isNm d = true) : ∃ s, d = .str s ∧ isNameS s = true := by
  cases d with
  | str s => exact ⟨s, rfl, h⟩
  | _ => cases h
end Tw

set_option Elab.async false
set_option linter.all false
set_option maxRecDepth 100000
set_option maxHeartbeats 4000000
namespace Tw
open PySem PySem.Spec PyProof.Rows L2
/-! ### signs and names -/
def sgn (c : Nat) : Str := ⟨#[c]⟩
theorem sgn_list' (c : Nat) : (sgn c).cps.toList = [c] := rfl
theorem sgn_len (c : Nat) : (sgn c).length = 1 := rfl
theorem join_txt (sep : Str) (l : List Str) : Txt.join sep l = Str.join sep l := by
  have := join_closes (sep := sep) (sep' := sep) (ys := l) rfl
  exact eq_of_beq this
theorem join_sgn : ∀ cs : List Nat, (Txt.join "" (cs.map sgn)).cps.toList = cs := by
  intro cs
  rw [join_txt]
  induction cs with
  | nil => rfl
  | cons c cs ih =>
    cases cs with
    | nil => rfl
    | cons d cs =>
      show (sgn c ++ ("" : Str) ++ Str.join "" ((d :: cs).map sgn)).cps.toList = _
      rw [cps_add, cps_add, ih]
      rfl
theorem lowS_list {s : Str} : lowS s = s.cps.toList.all isSmall := rfl
theorem isNameS_of {s : Str} {l : List Nat} (e : s.cps.toList = l) (h1 : 1 ≤ l.length) (h2 : l.length ≤ 8) (h3 : l.all isSmall = true) : isNameS s = true := by
  unfold isNameS
  rw [lowS_list, e, ← len_cps, e]
  simp [h1, h2, h3]
theorem isNameS_list {s : Str} (h : isNameS s = true) : 1 ≤ s.cps.toList.length ∧ s.cps.toList.length ≤ 8 ∧ s.cps.toList.all isSmall = true := by
  unfold isNameS at h
  rw [lowS_list, ← len_cps] at h
  simp only [Bool.and_eq_true, decide_eq_true_eq] at h
  exact ⟨h.1.1, h.1.2, h.2⟩
/-- a text with one sign put in another's place -/
def setS (l : List Nat) (a c : Nat) : Str := ⟨(l.set a c).toArray⟩
theorem setS_list (l : List Nat) (a c : Nat) : (setS l a c).cps.toList = l.set a c := by simp [setS]
theorem setS_len (l : List Nat) (a c : Nat) : (setS l a c).length = l.length := by rw [← len_cps, setS_list]; simp
theorem set_take_drop {α : Type} (l : List α) (a : Nat) (c : α) (h : a < l.length) : l.set a c = l.take a ++ c :: l.drop (a + 1) := by
  rw [List.set_eq_take_append_cons_drop, if_pos h]
theorem setS_made {z : Str} {a c : Nat} (h : a < z.length) {v w : Int} (hv : v = (a : Int)) (hw : w = (a : Int) + 1) : cutS z none (some v) ++ sgn c ++ cutS z (some w) none = setS z.cps.toList a c := by
  refine str_ext ?_
  rw [cps_add, cps_add, cut_to_list z v a hv, cut_from_list z w (a + 1) (by rw [hw]; omega), setS_list, set_take_drop _ _ _ (by rw [len_cps]; exact h), sgn_list']
  simp
def eta : Str := "etaoinshrdlucmfwypvbgkjqxz"
def ltr (r : Nat) : Nat := eta.cps.toList.getD r 0
theorem eta_len : eta.length = 26 := by decide +kernel
theorem eta_at {r : Nat} (h : r < 26) : eta.cps.toList[r]? = some (ltr r) := by
  have h2 : r < eta.cps.toList.length := by rw [len_cps, eta_len]; exact h
  unfold ltr
  rw [List.getD_eq_getElem?_getD, List.getElem?_eq_getElem h2]
  rfl
theorem ltr_small : ∀ r < 26, isSmall (ltr r) = true := by decide +kernel
theorem ltr_inj : ∀ r < 26, ∀ s < 26, ltr r = ltr s → r = s := by decide +kernel
theorem nodup_set {α : Type} {x : α} : ∀ {l : List α} {i : Nat}, l.Nodup → x ∉ l → (l.set i x).Nodup
  | [], _, _, _ => by simp
  | a :: l, 0, h, hx => by
    simp only [List.set_cons_zero, List.nodup_cons] at h ⊢
    exact ⟨fun z => hx (by simp [z]), h.2⟩
  | a :: l, i + 1, h, hx => by
    simp only [List.set_cons_succ, List.nodup_cons] at h ⊢
    refine ⟨fun z => ?_, nodup_set h.2 fun z => hx (by simp [z])⟩
    rcases List.mem_or_eq_of_mem_set z with q | q
    · exact h.1 q
    · exact hx (by simp [← q])
/-- unlike by one sign -/
def kin (l : List Nat) (a s : Nat) (many : Nat) : List Str := (List.range many).map fun k => setS l a (ltr ((s + k) % 26))
theorem kin_len (l : List Nat) (a s many : Nat) : (kin l a s many).length = many := by simp [kin]
theorem kin_mem {l : List Nat} {a s many : Nat} {z : Str} (h : z ∈ kin l a s many) : z.length = l.length := by
  obtain ⟨k, _, rfl⟩ := List.mem_map.mp h
  exact setS_len _ _ _
theorem all_set {l : List Nat} {a c : Nat} (h : l.all isSmall = true) (hc : isSmall c = true) : (l.set a c).all isSmall = true := by
  rw [List.all_eq_true] at h ⊢
  intro x hx
  rcases List.mem_or_eq_of_mem_set hx with q | q
  · exact h x q
  · rw [q]; exact hc
theorem kin_name {l : List Nat} {a s many : Nat} (h1 : 1 ≤ l.length) (h2 : l.length ≤ 8) (h3 : l.all isSmall = true) : ∀ z ∈ kin l a s many, isNameS z = true := fun z hz => by
  obtain ⟨k, _, rfl⟩ := List.mem_map.mp hz
  exact isNameS_of (setS_list _ _ _) (by simpa using h1) (by simpa using h2) (all_set h3 (ltr_small _ (Nat.mod_lt _ (by decide))))
theorem kin_nodup {l : List Nat} {a s many : Nat} (h : a < l.length) (hm : many ≤ 26) : (kin l a s many).Nodup := by
  unfold kin
  rw [List.nodup_iff_pairwise_ne, List.pairwise_map]
  refine List.Pairwise.imp_of_mem ?_ (List.nodup_iff_pairwise_ne.mp (List.nodup_range (n := many)))
  intro i j hi hj hne e
  have hi : i < many := by simpa using hi
  have hj : j < many := by simpa using hj
  have e1 := congrArg (fun z : Str => z.cps.toList[a]?) e
  simp only [setS_list, List.getElem?_set_self h, Option.some.injEq] at e1
  have := ltr_inj _ (Nat.mod_lt _ (by decide)) _ (Nat.mod_lt _ (by decide)) e1
  omega
theorem dRep_lst (h : Bool) (l : List D) (k : Int) : dRep h (.lst l) (.int k) = fun S P X => (-(2 ^ 63) ≤ k ∧ k < 2 ^ 63 ∧ l.length * k.toNat ≤ sizeLine) ∧ newL h (List.replicate k.toNat l).flatten S P X := rfl
theorem rep8 : (List.replicate (8 : Int).toNat [D.int 26]).flatten = [D.int 26, D.int 26, D.int 26, D.int 26, D.int 26, D.int 26, D.int 26, D.int 26] := rfl
theorem twelve {xs : List Int} (h : xs.length = 12) : ∃ a b c d e f g i j k l m, xs = [a, b, c, d, e, f, g, i, j, k, l, m] := by
  match xs, h with
  | [a, b, c, d, e, f, g, i, j, k, l, m], _ => exact ⟨a, b, c, d, e, f, g, i, j, k, l, m, rfl⟩
theorem nine {xs : List Int} (h : xs.length = 9) : ∃ a b c d e f g i j, xs = [a, b, c, d, e, f, g, i, j] := by
  match xs, h with
  | [a, b, c, d, e, f, g, i, j], _ => exact ⟨a, b, c, d, e, f, g, i, j, rfl⟩
theorem rngD0' (n : Nat) : rngD 0 ((n : Int)).toNat = (List.range n).map fun k : Nat => D.int (k : Int) := by rw [Int.toNat_natCast, rngD0]
end Tw

set_option Elab.async false
set_option linter.all false
set_option maxRecDepth 100000
set_option maxHeartbeats 4000000
namespace Tw
open PySem PySem.Spec PyProof.Rows L2
theorem Sh.new (W : Wd) : Sh "Sheet" (W ++ [O.ins "Sheet" [("told_so", .hnd (W.length + 1)), ("became", .hnd (W.length + 2))], O.lst [], O.dct [] []]) [W.length, W.length + 1, W.length + 2] W.length [] [] 0 := by
  refine ⟨by simp, by simp, .inl rfl, by simp, fun _ => rfl, by simp, W.length + 1, W.length + 2, [], [], rfl, ?_, ?_, ?_, ?_, ?_, .inl ⟨rfl, rfl⟩, rfl, ?_⟩
  · simp
  · simp
  · simp [shFields]
  · rw [List.getElem?_append_right (by omega)]
    simp
  · rw [List.getElem?_append_right (by omega)]
    simp [keysOf]
  · intro i k h e
    simp [keysOf] at e
end Tw

set_option Elab.async false
set_option linter.all false
set_option maxRecDepth 100000
set_option maxHeartbeats 4000000
namespace Tw
open PySem PySem.Spec PyProof.Rows L2
/-! ### sorted(xs, key=f), f a def of the module: the keys alike data -/
section
variable {prog : Program} {w : World} {A : Around} {E : Value → Shared → Prop} {s : Shared} {a kS : Addr} {vs : List Value} {keys : Array Value} {e e1 : Nat} {P : PySem.Fin → Shared → Prop}
def endHeap (h : Heap) (kS a : Addr) (out : List Value) : Heap := (h.update kS (Obj.mapSeq fun _ => (#[] : Array Value))).update a (Obj.mapSeq fun _ => out.toArray)
theorem keyTail {st : SortSt} {out : List Value} (nk : s.heap.get? kS = some (seqObj "list" keys e)) (na : s.heap.get? a = some (seqObj "list" #[] e1)) (hka : kS ≠ a) (hsz : keys.size ≤ sizeLine) (hz : out.length ≤ sizeLine) (hfl : failedOf st = none)
    (ho : (arrOf st).map (·.2) = out.toArray) (h : ∀ tk, P (.done (.ret .none)) { s with heap := endHeap s.heap kS a out, toks := tk }) : wpAny (model prog w) A (ksk_tail a false e1 (.ref kS) st) P E s := by
  have na2 : (s.heap.update kS (Obj.mapSeq fun _ => (#[] : Array Value))).get? a = some (seqObj "list" #[] e1) := ((Heap.SameBut.update s.heap kS (Obj.mapSeq fun _ => (#[] : Array Value))).2 a hka.symm).trans na
  have z2 : out.toArray.size ≤ sizeLine + 1 := by
    rw [List.size_toArray]; omega
  unfold ksk_tail
  try dsimp only
  rw [ho]
  refine wpAny_bind (listUpdate_at nk rfl ?_ hsz (Nat.zero_le _))
  refine wpAny_bind (wpAny_letGo ?_)
  refine wpAny_bind (seqEpoch_at na2 rfl ?_)
  refine wpAny_bind (listUpdate_at na2 rfl ?_ (Nat.zero_le _) z2)
  rw [hfl]
  simp only [bne_self_eq_false, Bool.false_eq_true, if_false]
  exact wpAny_pure (h _)
theorem keyEnd {κ : PyProof.Rows.KeyKind} (nk : s.heap.get? kS = some (seqObj "list" keys e)) (na : s.heap.get? a = some (seqObj "list" #[] e1)) (hka : kS ≠ a) (S : PySem.W.SortsAt prog w A s κ keys.toList) (hsz : keys.size = vs.length) (hZ : vs.length ≤ sizeLine)
    (h : ∀ tk, P (.done (.ret .none)) { s with heap := endHeap s.heap kS a (PySem.W.sortVals κ false keys.toList vs), toks := tk }) : wpAny (model prog w) A (ksk_end a false vs.toArray e1 (.ref kS) keys) P E s := by
  obtain ⟨kd, h1, h2⟩ := S.kind
  have hkl : keys.toList.length = vs.length := by rw [Array.length_toList]; exact hsz
  have hK : PyProof.Rows.KeysOf κ (keys.zip vs.toArray) := PySem.W.keysOf_zip S.keys
  have hol : (PySem.W.sortVals κ false keys.toList vs).length = vs.length := PySem.W.sortVals_length false hkl
  have hss : (keys.zip vs.toArray).size = vs.length := by rw [Array.size_zip, hsz, List.size_toArray, Nat.min_self]
  have fin : ∀ st' : SortSt, (arrOf st').Perm (keys.zip vs.toArray) → SortedToK κ (arrOf st') (keys.zip vs.toArray).size → Stable κ (arrOf st') (keys.zip vs.toArray) → (arrOf st').map (·.2) = (PySem.W.sortVals κ false keys.toList vs).toArray := by
    intro st' p1 p2 p3
    have q := congrArg List.toArray (PySem.W.sort_out (rev := false) (keys := keys) (items := vs.toArray) (xs := arrOf st') (κ := κ) hK p1 p2 p3)
    simp only [Bool.false_eq_true, if_false, Array.toArray_toList] at q
    exact q
  have zk : keys.size ≤ sizeLine := by rw [hsz]; exact hZ
  unfold ksk_end
  try dsimp only
  simp only [Bool.false_eq_true, if_false]
  by_cases hl2 : vs.toArray.size < 2
  · rw [if_pos hl2, if_pos hl2]
    refine wpAny_bind (wpAny_pure ?_)
    rw [StateT.run_pure]
    refine wpAny_bind (wpAny_pure ?_)
    try dsimp only
    refine keyTail (st := SortSt.mk' general' (keys.zip vs.toArray) #[] 7 none) nk na hka zk (by rw [hol]; exact hZ) rfl (fin _ (Array.Perm.refl _) ?_ (Stable.refl _)) h
    intro i j hij hj
    rw [hss] at hj
    rw [List.size_toArray] at hl2
    obtain rfl : i = j := by omega
    exact KeyOrd.kle_refl _
  · rw [if_neg hl2, if_neg hl2]
    rw [List.size_toArray] at hl2
    refine wpAny_bind (h2 (by omega) _ ?_)
    refine wpAny_bind (wpAny_mono (H.wpS_sortRunsSt (κ := κ) (kd := kd) (a₀ := keys.zip vs.toArray) (st := SortSt.mk' kd (keys.zip vs.toArray) #[] 7 none)
      (Q := fun _ st' => failedOf st' = none ∧ (arrOf st').map (·.2) = (PySem.W.sortVals κ false keys.toList vs).toArray) h1 hK ⟨Array.Perm.refl _, rfl, rfl⟩ rfl (Stable.refl _) (by rw [hss]; omega) fun st' a1 a2 a3 a4 => ⟨a2, fin st' a1 a3 a4⟩) ?_ fun _ _ e => e)
    rintro ⟨⟨⟩, st'⟩ s' ⟨rfl, hf, ho⟩
    try dsimp only at ho ⊢
    exact keyTail nk na hka zk (by rw [hol]; exact hZ) hf ho h
end
/-- what a def gives for one item, always: k x -/
def KeyFn (c : FC) (k : D → D) (x : D) : Prop := ∀ (W : Wd) (P : D → Wd → Prop) (X : Exn → Wd → Prop), P (k x) W → c [x] W P X
section
variable {X : Cx} {pins : List (Addr × Obj)} {σ : L2.St} {H : Hp} {s : Shared}
/-- a def called within a built-in -/
theorem call_in {j : Nat} {f : Addr} {fd : FuncData} {ps : List Str} {c : FC} {A : Around} {v : V} {u : Value} {Q : VK} {E' : Value → Shared → Prop} (F : FnOk X.prog X.w X.K X.mg X.base (L2.CX X.prog X.w) j f fd ps (spOf X.K c)) (hr : Room j A) (he : ∀ {s H}, Env0 X.prog X.w X.K X.mg X.base X.A X.stack s H → Env0 X.prog X.w X.K X.mg X.base A X.stack s H) (hb : Binds X.K fd ps [])
    (I : Inv X pins σ H s) (ru : RelV v u) (h : spOf X.K c [v] H Q fun _ _ _ => False) : wpAny (model X.prog X.w) A (call (.ref f) [u]) (EP X pins σ Q) E' s := by
  have hl : ([u] ++ ([] : List Value)).length = ps.length := by
    have := F.len _ _ _ _ h
    simpa using this
  refine wpAny_call (codeAny_mono (F.run A X.stack s H ⟨[u], []⟩ [u] [v] Q (fun _ _ _ => False) hr (he I.env0) (by simpa using hb s [u] I.kIn hl) (.cons ru .nil) h) fun r s' hq => ?_)
  match r, hq with
  | .ok (.ret v), hq => exact I.after hq
  | .error e, hq =>
    obtain ⟨_, _, _, _, _, _, _, _, _, _, _, _, z⟩ := hq
    exact z.elim
/-- what stays of a record of one's own, whatever the heap -/
def FpS (X : Cx) (pins : List (Addr × Obj)) (b : Addr) : Prop := FpOk X pins (fun _ => none) b
theorem FpS.of {b : Addr} (f : FpS X pins b) {H : Hp} (h : H b = none) : FpOk X pins H b := ⟨h, f.2⟩
theorem FpS.more {b c : Addr} {o : Obj} (f : FpS X pins b) (h : c ≠ b) : FpS X (pins ++ [(c, o)]) b := by
  obtain ⟨h0, h1, h2, h3, h4, h5⟩ := f
  refine ⟨h0, h1, h2, h3, h4, fun p hp => ?_⟩
  rw [← List.append_assoc] at hp
  rcases List.mem_append.mp hp with q | q
  · exact h5 p q
  · obtain rfl := List.mem_singleton.mp q
    exact h
abbrev lstOb (xs : Array Value) (n : Nat) : Obj := seqObj "list" xs n
theorem notCell (xs : Array Value) (n : Nat) : ∀ v, (lstOb xs n).data ≠ .cell v := fun v h => by cases h
/-- the pinned list of keys grows -/
theorem grow_key {kS a : Addr} {kA : Array Value} {e e1 : Nat} {u : Value} (I : Inv X (pins ++ [(kS, lstOb kA e), (a, lstOb #[] e1)]) σ H s) (fk : FpS X pins kS) (hka : kS ≠ a) (tk : Nat) :
    ∃ e', Inv X (pins ++ [(kS, lstOb (kA.push u) e'), (a, lstOb #[] e1)]) σ H { s with heap := s.heap.update kS (Obj.mapSeq (·.push u)), toks := tk } := by
  have pk := I.pin (kS, lstOb kA e) (by simp)
  have pa := I.pin (a, lstOb #[] e1) (by simp)
  have I1 : Inv X (pins ++ [(a, lstOb #[] e1)]) σ H s := I.pins_of fun p hp => I.pin p (by
    rcases List.mem_append.mp hp with q | q
    · simp [q]
    · simp at q; subst q; simp)
  have sb := Heap.SameBut.update s.heap kS (Obj.mapSeq (·.push u))
  have I2 := I1.turnedL (t' := tk) (h' := s.heap.update kS (Obj.mapSeq (·.push u))) (ch := [kS]) (fun b o hb q => (sb.2 b (by simpa using hb)).trans q) (fun b hb => by
    obtain rfl : b = kS := by simpa using hb
    exact (fk.more hka.symm).of pk.2.1)
  obtain ⟨c, hc⟩ : ∃ c, (s.heap.update kS (Obj.mapSeq (·.push u))).get? kS = some (lstOb (kA.push u) c) := ⟨_, get?_update_seq pk.1 (·.push u)⟩
  refine ⟨c, I2.pins_of fun p hp => ?_⟩
  rcases List.mem_append.mp hp with q | q
  · exact I2.pin p (by simp [q])
  · rcases List.mem_cons.mp q with rfl | q
    · exact ⟨hc, pk.2.1, pk.2.2.1, pk.2.2.2.1, notCell _ _⟩
    · simp at q
      subst q
      exact I2.pin _ (by simp)
theorem keyRest {j : Nat} {f : Addr} {fd : FuncData} {ps : List Str} {c : FC} {A : Around} {E' : Value → Shared → Prop} {P : PySem.Fin → Shared → Prop} (F : FnOk X.prog X.w X.K X.mg X.base (L2.CX X.prog X.w) j f fd ps (spOf X.K c)) (hr : Room j A) (he : ∀ {s H}, Env0 X.prog X.w X.K X.mg X.base X.A X.stack s H → Env0 X.prog X.w X.K X.mg X.base A X.stack s H) (hb : Binds X.K fd ps [])
    {B : Hp} {φ : List Addr} {W : Wd} {l : List D} {xs : List V} {vs : List Value} {k : D → D} (hk : ∀ x ∈ l, KeyFn c k x) {kS a : Addr} {e1 : Nat} (hka : kS ≠ a) (fk : FpS X pins kS) (hz : vs.length ≤ sizeLine)
    (I : Inv X (pins ++ [(kS, lstOb #[] 0), (a, lstOb #[] e1)]) σ H s) (R : RelW X.K B φ W H) (r : Reps X.K B φ l xs) (rv : Vals xs vs)
    (fin : ∀ s' H' B' φ' keys keysV e, Inv X (pins ++ [(kS, lstOb keys e), (a, lstOb #[] e1)]) σ H' s' → Ext B φ B' φ' → RelW X.K B' φ' W H' → Reps X.K B' φ' (l.map k) keysV → Vals keysV keys.toList → wpAny (model X.prog X.w) A (ksk_end a false vs.toArray e1 (.ref kS) keys) P E' s') :
    wpAny (model X.prog X.w) A (ksk_rest a (.ref f) false vs.toArray e1 (.ref kS)) P E' s := by
  have hl1 : xs.length = l.length := r.length
  have hl2 : xs.length = vs.length := rv.length
  unfold ksk_rest
  refine wpAny_bind (wpAny_rule ?_)
  first
    | rw [List.forIn_toArray]
    | (rw [← Array.forIn_toList]; simp only [List.toList_toArray])
  refine wpAny_bind (ksk_fold (fun i s' => ∃ H' B' φ' kA keysV e, Inv X (pins ++ [(kS, lstOb kA e), (a, lstOb #[] e1)]) σ H' s' ∧ Ext B φ B' φ' ∧ RelW X.K B' φ' W H' ∧ Reps X.K B' φ' ((l.take i).map k) keysV ∧ Vals keysV kA.toList) vs 0 s
    ⟨H, B, φ, #[], [], 0, I, Ext.refl _ _, R, by simpa using Reps.nil, .nil⟩ ?step ?done)
  case step =>
    rintro i x s' hx ⟨H', B', φ', kA, keysV, e, I', e', R', r', v'⟩
    simp only [Nat.zero_add] at r' ⊢
    have hi : i < vs.length := (List.getElem?_eq_some_iff.mp hx).1
    obtain ⟨d, hd⟩ : ∃ d, l[i]? = some d := ⟨_, List.getElem?_eq_getElem (by omega)⟩
    obtain ⟨y, hy, ry⟩ := r.get hd
    obtain ⟨u, hu, ru⟩ := rv.get hy
    rw [hx] at hu
    cases hu
    have hks : kA.size ≤ vs.length := by
      have h1 := v'.length
      have h2 := r'.length
      rw [List.length_map, List.length_take] at h2
      have h3 : kA.toList.length = kA.size := Array.length_toList
      omega
    refine wpAny_bind (wpAny_attempt (wpAny_mono (call_in F hr he hb I' ru (Q := fun v H2 => ∃ B2 φ2, Ext B' φ' B2 φ2 ∧ RelW X.K B2 φ2 W H2 ∧ Rep X.K B2 φ2 (k d) v) (E' := fun _ _ => False) ?_) (fun v s2 hv => ?_) fun _ _ hF => hF.elim))
    · refine ⟨B', φ', W, [d], fun d' W' => d' = k d ∧ W' = W, fun _ _ => False, R', Reps.cons (ry.mono e' _ _) Reps.nil, hk d (List.mem_of_getElem? hd) W _ _ ⟨rfl, rfl⟩, ?_, fun _ _ _ _ _ _ _ z => z.elim⟩
      rintro d' W' v B2 φ2 H2 ⟨rfl, rfl⟩ e2 R2 r2
      exact ⟨B2, φ2, e2, R2, r2⟩
    · obtain ⟨v2, H2, I2, rv2, B2, φ2, e2, R2, r2⟩ := hv
      try dsimp only
      have pk := I2.pin (kS, lstOb kA e) (by simp)
      obtain ⟨e3, I3⟩ := grow_key (u := v) I2 fk hka s2.toks
      refine wpAny_bind (listUpdate_at pk.1 rfl ?_ (Nat.le_trans hks hz) (Nat.le_trans (Nat.le_of_eq (Array.size_push ..)) (Nat.succ_le_succ (Nat.le_trans hks hz))))
      refine wpAny_pure ⟨rfl, H2, B2, φ2, kA.push v, keysV ++ [v2], e3, I3, e'.trans e2, R2, ?_, ?_⟩
      · have ek : (l.take (i + 1)).map k = (l.take i).map k ++ [k d] := by rw [List.take_add_one, hd]; simp
        rw [ek]
        exact (r'.mono e2 _ _).append (Reps.cons r2 Reps.nil)
      · rw [show (kA.push v).toList = kA.toList ++ [v] by simp]
        exact v'.append (.cons rv2 .nil)
  case done =>
    rintro s' ⟨H', B', φ', kA, keysV, e, I', e', R', r', v'⟩
    have pk := I'.pin (kS, lstOb kA e) (by simp)
    rw [List.take_of_length_le (by omega)] at r'
    try dsimp only
    exact wpAny_bind (listItems_at pk.1 rfl (fin s' H' B' φ' kA keysV e I' e' R' r' v'))
theorem each_reads {B : Hp} {φ : List Addr} {W : Wd} (I : Inv X pins σ H s) (R : RelW X.K B φ W H) : ∀ {ds : List D} {pd : List PyData} {vs : List V} {us : List Value}, Reps X.K B φ ds vs → Vals vs us → ds.map D.py = pd.map some → PySem.W.EachIs (fun v d => ∃ as, Reads s.heap v d as) us pd
  | [], pd, vs, us, r, v, e => by
    rw [r.nil_inv] at v
    cases v
    cases pd with
    | nil => exact .nil
    | cons => simp at e
  | d :: ds, [], vs, us, r, v, e => by simp at e
  | d :: ds, q :: pd, vs, us, r, v, e => by
    obtain ⟨x, xs, rfl, r1, r2⟩ := r.cons_inv
    simp only [List.map_cons, List.cons.injEq] at e
    cases v with
    | cons v1 v2 => exact .cons (Dp.reads I _ _ _ (Rep.dp R d x q r1 e.1) v1) (each_reads I R r2 v2 e.2)
theorem each_rel {B : Hp} {φ : List Addr} : ∀ {ds : List D} {vs : List V} {us : List Value}, Reps X.K B φ ds vs → Vals vs us → PySem.W.EachIs (fun u d => ∃ v, RelV v u ∧ Rep X.K B φ d v) us ds
  | [], vs, us, r, v => by
    rw [r.nil_inv] at v
    cases v
    exact .nil
  | d :: ds, vs, us, r, v => by
    obtain ⟨x, xs, rfl, r1, r2⟩ := r.cons_inv
    cases v with
    | cons v1 v2 => exact .cons ⟨x, v1, r1⟩ (each_rel r2 v2)
theorem rel_each {B : Hp} {φ : List Addr} : ∀ {ds : List D} {us : List Value}, PySem.W.EachIs (fun u d => ∃ v, RelV v u ∧ Rep X.K B φ d v) us ds → ∃ vs, Reps X.K B φ ds vs ∧ Vals vs us
  | _, _, .nil => ⟨[], Reps.nil, .nil⟩
  | _, _, .cons ⟨v, h1, h2⟩ t => by
    obtain ⟨vs, h3, h4⟩ := rel_each t
    exact ⟨v :: vs, Reps.cons h2 h3, .cons h1 h4⟩
/-- the order of items by their keys -/
def kLe (kd : D → PyData) (a b : D) : Bool := PySem.W.dataLe false kd a b
theorem py_map {l : List D} {k : D → D} {kd : D → PyData} (h : ∀ x ∈ l, (k x).py = some (kd x)) : (l.map k).map D.py = (l.map kd).map some := by
  rw [List.map_map, List.map_map]
  exact List.map_congr_left h
theorem sorted_keyed {j : Nat} {f : Addr} {fd : FuncData} {ps : List Str} {c : FC} {E' : Value → Shared → Prop} (F : FnOk X.prog X.w X.K X.mg X.base (L2.CX X.prog X.w) j f fd ps (spOf X.K c)) (hr : Room (j + 2) X.A) (hb : Binds X.K fd ps [])
    {B : Hp} {φ : List Addr} {W : Wd} {l : List D} {xs : List V} {k : D → D} {kd : D → PyData} (hk : ∀ x ∈ l, KeyFn c k x) (hd : ∀ x ∈ l, (k x).py = some (kd x)) (hdp : ∀ x ∈ l, (kd x).depth ≤ 60) (hal : PySem.W.AllAlike (l.map kd)) (hsk : PySem.W.Sortable (l.map kd))
    (I : Inv X pins σ H s) {la : Addr} (hs : SqL X.K H la xs) (R : RelW X.K B φ W H) (r : Reps X.K B φ l xs) {Q : VK}
    (q : ∀ B' φ' H' p ys, Ext B φ B' φ' → RelW X.K B' φ' W H' → Reps X.K B' φ' (l.mergeSort (kLe kd)) ys → H' p = none → Q (.ref p) (upd H' p (.lst ys))) :
    wpAny (model X.prog X.w) X.A (call (.builtin "sorted") [.ref la] [(Str.ofString "key", .ref f)]) (EP X pins σ Q) E' s := by
  obtain ⟨its, rv, hl, hz⟩ := I.list hs
  have hz2 : its.length ≤ sizeLine := by rw [← rv.length]; exact hz
  refine PySem.W.sorted_of_sort (vs := its) hl.isList hz2 (ksk_s1 _ _) (fun _ => ksk_l1 _ _) fun E2 => ?_
  rw [ksk_t1]
  have ho := PySem.W.copyHeap_at s.heap its
  have csz : (PySem.W.copyHeap s.heap its).objs.size = s.heap.objs.size + 2 := by
    unfold PySem.W.copyHeap
    rw [size_push', Heap.size_update, size_push']
  generalize ha : s.heap.objs.size + 1 = a at ho ⊢
  generalize hh : PySem.W.copyHeap s.heap its = h1 at ho csz ⊢
  obtain ⟨e1, ho1⟩ : ∃ e1, (h1.update a (Obj.mapSeq fun _ => (#[] : Array Value))).get? a = some (seqObj "list" #[] e1) := ⟨_, get?_update_seq ho fun _ => #[]⟩
  have sb := Heap.SameBut.update h1 a (Obj.mapSeq fun _ => (#[] : Array Value))
  unfold ksk_tree
  refine wpAny_bind (listItems_at ho rfl ?_)
  refine wpAny_bind (listUpdate_at ho rfl ?_ (by rw [List.size_toArray]; exact hz2) (Nat.zero_le _))
  refine wpAny_bind (seqEpoch_at ho1 rfl ?_)
  refine wpAny_bind (wpAny_newTuple ?_ (by show its.length ≤ _; exact hz2))
  refine wpAny_bind (wpAny_newList ?_ (Nat.zero_le _))
  refine wpAny_holding ?_
  have ksz : ((h1.update a (Obj.mapSeq fun _ => (#[] : Array Value))).push (seqObj "tuple" its.toArray 0)).objs.size = s.heap.objs.size + 3 := by rw [size_push', Heap.size_update, csz]
  have keep : ∀ b o, s.heap.get? b = some o → (((h1.update a (Obj.mapSeq fun _ => (#[] : Array Value))).push (seqObj "tuple" its.toArray 0)).push (seqObj "list" #[] 0)).get? b = some o := fun b o q => by
    have hlt := Heap.lt_size q
    refine Heap.get?_push_of_some _ (Heap.get?_push_of_some _ ((sb.2 b (show b ≠ a from Nat.ne_of_lt (by rw [← ha]; exact Nat.lt_succ_of_lt hlt))).trans ?_))
    rw [← hh]
    exact PySem.W.copyHeap_old q
  have I1 : Inv X pins σ H { s with heap := ((h1.update a (Obj.mapSeq fun _ => (#[] : Array Value))).push (seqObj "tuple" its.toArray 0)).push (seqObj "list" #[] 0) } := I.kept keep
  have fS : ∀ b, s.heap.objs.size ≤ b → FpS X pins b := fun b hb => I.fpOk hb rfl
  have I2 : Inv X (pins ++ [(((h1.update a (Obj.mapSeq fun _ => (#[] : Array Value))).push (seqObj "tuple" its.toArray 0)).objs.size, lstOb #[] 0), (a, lstOb #[] e1)]) σ H { s with heap := ((h1.update a (Obj.mapSeq fun _ => (#[] : Array Value))).push (seqObj "tuple" its.toArray 0)).push (seqObj "list" #[] 0) } := I1.pins_of fun p hp => by
    rcases List.mem_append.mp hp with q | q
    · exact I1.pin p (by simp [q])
    · rcases List.mem_cons.mp q with rfl | q
      · have f := fS _ (show s.heap.objs.size ≤ ((h1.update a (Obj.mapSeq fun _ => (#[] : Array Value))).push (seqObj "tuple" its.toArray 0)).objs.size by omega)
        exact ⟨Heap.get?_push_size _ rfl, I.hok.fresh (by omega), f.2.1, f.2.2.1, notCell _ _⟩
      · obtain rfl := List.mem_singleton.mp q
        have f := fS a (by omega)
        exact ⟨Heap.get?_push_of_some _ (Heap.get?_push_of_some _ ho1), I.hok.fresh (by omega), f.2.1, f.2.2.1, notCell _ _⟩
  rw [ksz] at I2 ⊢
  have hka : s.heap.objs.size + 3 ≠ a := by omega
  refine keyRest F hr.in1.in1 (fun e => e.in1.in1) hb hk hka (fS _ (by omega)) hz2 I2 R r rv fun s' H' B' φ' keys keysV e I' e' R' r' v' => ?_
  have pk := I'.pin (s.heap.objs.size + 3, lstOb keys e) (by simp)
  have pa := I'.pin (a, lstOb #[] e1) (by simp)
  have er : PySem.W.EachIs (fun v d => ∃ as, Reads s'.heap v d as) keys.toList (l.map kd) := each_reads I' R' r' v' (py_map hd)
  have hkz : keys.size = its.length := by
    have h1 := v'.length
    have h2 := r'.length
    have h3 := r.length
    have h4 := rv.length
    have h5 : keys.toList.length = keys.size := Array.length_toList
    rw [List.length_map] at h2
    omega
  refine keyEnd (s := s') (κ := PySem.W.dataKind s'.heap (l.map kd)) pk.1 pa.1 hka (PySem.W.SortsAt.data er hal hsk fun d hd' => ?_) hkz hz2 fun tk => ⟨rfl, ?_⟩
  · obtain ⟨x, hx, rfl⟩ := List.mem_map.mp hd'
    have := hdp x hx
    have := hr.un
    show X.A.units + 2 + _ < _
    omega
  · have eo : PySem.W.EachIs (fun u d => ∃ v, RelV v u ∧ Rep X.K B' φ' d v) (PySem.W.sortVals (PySem.W.dataKind s'.heap (l.map kd)) false keys.toList its) (l.mergeSort (kLe kd)) :=
      PySem.W.sortVals_each (κ := PySem.W.dataKind s'.heap (l.map kd)) (rev := false) (fun b => PySem.W.keyToks (kd b)) (each_rel (r.mono e' _ _) rv) (PySem.W.each_of_map kd (PySem.W.each_keys hal er))
    obtain ⟨ys, ry, vy⟩ := rel_each eo
    generalize PySem.W.sortVals (PySem.W.dataKind s'.heap (l.map kd)) false keys.toList its = out at vy
    have hyz : ys.length ≤ sizeLine := by
      have h1 := ry.length
      rw [List.length_mergeSort] at h1
      have h3 := r.length
      rw [h1, ← h3]
      exact hz
    have I3 : Inv X pins σ H' s' := I'.pins_of fun p hp => I'.pin p (List.mem_append_right _ (List.mem_append_left _ hp))
    have sk := Heap.SameBut.update s'.heap (s.heap.objs.size + 3) (Obj.mapSeq fun _ => (#[] : Array Value))
    have I4 := I3.turnedL (t' := tk) (h' := s'.heap.update (s.heap.objs.size + 3) (Obj.mapSeq fun _ => (#[] : Array Value))) (ch := [s.heap.objs.size + 3]) (fun b o hb q => (sk.2 b (by simpa using hb)).trans q) (fun b hb => by
      obtain rfl : b = s.heap.objs.size + 3 := by simpa using hb
      exact (fS _ (by omega)).of pk.2.1)
    have na2 : (s'.heap.update (s.heap.objs.size + 3) (Obj.mapSeq fun _ => (#[] : Array Value))).get? a = some (seqObj "list" #[] e1) := (sk.2 a hka.symm).trans pa.1
    obtain ⟨c2, hc2⟩ : ∃ c2, (endHeap s'.heap (s.heap.objs.size + 3) a out).get? a = some (seqObj "list" out.toArray c2) := ⟨_, get?_update_seq na2 fun _ => out.toArray⟩
    have sk2 := Heap.SameBut.update (s'.heap.update (s.heap.objs.size + 3) (Obj.mapSeq fun _ => (#[] : Array Value))) a (Obj.mapSeq fun _ => out.toArray)
    exact ⟨.ref a, upd H' a (.lst ys), I4.take (t' := tk) (h' := endHeap s'.heap (s.heap.objs.size + 3) a out) (fun b o hb q => (sk2.2 b hb).trans q) ((fS a (by omega)).of pa.2.1) ⟨hyz, out, c2, vy, hc2⟩, rfl, q B' φ' H' a ys e' R' ry pa.2.1⟩
end
def bSortK (h : Bool) (c : FC) (ds : List D) : M D := fun S P X => match ds with
  | [d] => ∃ (l : List D) (k : D → D) (kd : D → PyData), rdL S.W d = some l ∧ (∀ x ∈ l, KeyFn c k x ∧ (k x).py = some (kd x) ∧ (kd x).depth ≤ 60) ∧ PySem.W.AllAlike (l.map kd) ∧ PySem.W.Sortable (l.map kd) ∧ newL h (l.mergeSort (kLe kd)) S P X
  | _ => False
section
variable {X : Cx} {WE : WX} {fn : Str} {p p2 pos : Pos} {kp : Pos} {e : Expr} {ga : M (List D)}
def rSortK (X : Cx) (f : Addr) (c : FC) : List V → List V → Hp → VK → Prop := fun vs zs H Q => zs = [.ref f] ∧ ∃ (la : Addr) (xs : List V) (B : Hp) (φ : List Addr) (W : Wd) (l : List D) (k : D → D) (kd : D → PyData), vs = [.ref la] ∧ SqL X.K H la xs ∧ RelW X.K B φ W H ∧ Reps X.K B φ l xs ∧
  (∀ x ∈ l, KeyFn c k x ∧ (k x).py = some (kd x) ∧ (kd x).depth ≤ 60) ∧ PySem.W.AllAlike (l.map kd) ∧ PySem.W.Sortable (l.map kd) ∧
  ∀ B' φ' H' p ys, Ext B φ B' φ' → RelW X.K B' φ' W H' → Reps X.K B' φ' (l.mergeSort (kLe kd)) ys → H' p = none → Q (.ref p) (upd H' p (.lst ys))
theorem cr_sortK {j : Nat} {f : Addr} {fd : FuncData} {ps : List Str} {c : FC} (F : FnOk X.prog X.w X.K X.mg X.base (L2.CX X.prog X.w) j f fd ps (spOf X.K c)) (hr : Room (j + 2) X.A) (hb : Binds X.K fd ps []) : CallRK X (.builtin "sorted") [Str.ofString "key"] (rSortK X f c) := by
  intro pins s σ H vs zs us ws Q I r rz h
  obtain ⟨rfl, la, xs, B, φ, W, l, k, kd, rfl, hs, R, rr, h1, h2, h3, q⟩ := h
  obtain rfl := Vals.ref1 r
  obtain ⟨w1, rfl, ew⟩ := vals1 rz
  obtain rfl : w1 = Value.ref f := ew
  exact sorted_keyed F hr hb (fun x hx => (h1 x hx).1) (fun x hx => (h1 x hx).2.1) (fun x hx => (h1 x hx).2.2) h2 h3 I hs R rr q
theorem run_up {α β : Type} {K : PySem.W.Frag} {WE : WX} {R : Hp → List Addr → α → β → Prop} {f : M α} {B B' : Hp} {φ φ' : List Addr} {S : AS} {σ : L2.St} {H H' : Hp} {Q : β → Hp → Prop} (h : Run K WE R f B φ S σ H Q) (e : Ext B φ B' φ') : Run K WE R f B' φ' S σ H' Q := by
  obtain ⟨P, X, h1, h2, h3⟩ := h
  exact ⟨P, X, h1, fun a S' b B2 φ2 H2 hp e2 => h2 a S' b B2 φ2 H2 hp (e.trans e2), fun x S' cls d B2 φ2 H2 hx e2 => h3 x S' cls d B2 φ2 H2 hx (e.trans e2)⟩
theorem de_sortK {j k : Nat} {h : Bool} {c : FC} (F : FOk X.prog X.w X.K X.mg X.base j fn c) (hr : Room k X.A) (hm : X.mg "sorted" = none) (ha : PA X [e] (tA X.K WE ga)) (hjk : j + 2 ≤ k := by decide) (hg : Gl X "sorted" := by rfl) (hgf : Gl X fn := by rfl) (hdb : (fn == ("__debug__" : Str)) = false := by decide)
    (he : backTo pos (starEach [e] X.env) = (false, eval e X.env) :: backTo pos (starEach [] X.env) := by rfl) (hpl : (backTo pos (starEach [e] X.env)).any (·.1) = false := by rfl)
    (hall : (backToKw pos (keywordEach [⟨some "key", .Name fn p2, kp⟩] X.env)).all (·.1.isSome) = true := by rfl) (hnone : (backToKw pos (keywordEach [⟨some "key", .Name fn p2, kp⟩] X.env)).any (·.1.isNone) = false := by rfl)
    (hks : (backToKw pos (keywordEach [⟨some "key", .Name fn p2, kp⟩] X.env)).filterMap (·.1) = [Str.ofString "key"] := by rfl) :
    PE X (.Call (.Name "sorted" p) [e] [⟨some "key", .Name fn p2, kp⟩] pos) (tE X.K WE (M.bind ga (bSortK h c))) := by
  obtain ⟨f, fd, ps, h1, h2, h3, h4⟩ := F.ex
  refine PE.weak (pe_callBK (cr_sortK h4 (hr.mono hjk) h3) hg hm (by decide +kernel) ha (pk_cons (pe_glob (v := .ref f) hgf h1 rfl hdb) pk_nil) (by decide) (by decide) he hpl hall hnone hks) fun σ H Q h0 => ?_
  obtain ⟨B, φ, S, R, run⟩ := h0
  refine ⟨B, φ, S, R, run.bind.imp ?_⟩
  rintro xs H1 ⟨ds, B1, φ1, S1, e1, R1, r1, run1⟩
  have run0 := run1
  obtain ⟨P, Xx, q1, q2, q3⟩ := run1
  unfold bSortK at q1
  split at q1
  · rename_i d
    obtain ⟨l, kk, kd, hl, g1, g2, g3, q1⟩ := q1
    obtain ⟨v, rfl, rv⟩ := one_inv r1
    obtain ⟨la, xs, rfl, hs, rx⟩ := rdL_ok R1.w rv hl
    refine ⟨rfl, la, xs, B1, φ1, S1.W, l, kk, kd, rfl, hs, R1.w, rx, g1, g2, g3, fun B' φ' H' pp ys ee RR rr hp => ?_⟩
    have R2 : Rel X.K B' φ' ⟨S1.σ, S1.W⟩ σ H' := R1.ext ee RR
    exact newL_ok (WE := WE) R2 (run_up (H := H1) (⟨P, Xx, q1, q2, q3⟩ : Run X.K WE (fun B φ => Rep X.K B φ) (newL h (l.mergeSort (kLe kd))) B1 φ1 S1 σ H1 Q) ee) rr hp
  · exact q1.elim
end
end Tw

set_option Elab.async false
set_option linter.all false
set_option maxRecDepth 100000
set_option maxHeartbeats 4000000
namespace Tw
open PySem PySem.Spec PyProof.Rows L2
/-! ### the order of texts, sorted lists -/
def sLe (a b : Str) : Bool := !decide (b.cps.toList < a.cps.toList)
def pyK : L2.Key → PyData
  | .inl i => .int i
  | .inr x => .str x
def kyLe (a b : L2.Key) : Bool := PySem.W.dataLe false pyK a b
theorem data_int {β : Type} {k : β → PyData} {a b : β} {i j : Int} (ha : k a = .int i) (hb : k b = .int j) : PySem.W.dataLe false k a b = decide (i ≤ j) := by
  show (!PyProof.Rows.lexLt itemOrd (PySem.W.keyToks (k b)) (PySem.W.keyToks (k a))) = _
  rw [ha, hb]
  simp only [PySem.W.keyToks, PyProof.Rows.lexLt]
  show (!(decide (j < i) || (!decide (i < j) && false))) = decide (i ≤ j)
  by_cases c : i ≤ j
  · simp [c]
  · simp [c]; omega
theorem data_str {β : Type} {k : β → PyData} {a b : β} {x y : Str} (ha : k a = .str x) (hb : k b = .str y) : PySem.W.dataLe false k a b = sLe x y := by
  show (!PyProof.Rows.lexLt itemOrd (PySem.W.keyToks (k b)) (PySem.W.keyToks (k a))) = _
  rw [ha, hb]
  simp only [PySem.W.keyToks, PyProof.Rows.lexLt]
  show (!(decide (y.cps.toList < x.cps.toList) || (!decide (x.cps.toList < y.cps.toList) && false))) = sLe x y
  simp [sLe]
theorem dataLe_trans {β : Type} (k : β → PyData) (a b c : β) (h1 : PySem.W.dataLe false k a b = true) (h2 : PySem.W.dataLe false k b c = true) : PySem.W.dataLe false k a c = true := (PySem.W.sortLe_total (listOrd itemOrd) false fun b => PySem.W.keyToks (k b)).trans a b c h1 h2
theorem dataLe_total {β : Type} (k : β → PyData) (a b : β) : (PySem.W.dataLe false k a b || PySem.W.dataLe false k b a) = true := Bool.or_eq_true_iff.mpr ((PySem.W.sortLe_total (listOrd itemOrd) false fun b => PySem.W.keyToks (k b)).total a b)
theorem srt_pairwise {β : Type} (k : β → PyData) (l : List β) : (l.mergeSort (PySem.W.dataLe false k)).Pairwise fun a b => PySem.W.dataLe false k a b = true := List.pairwise_mergeSort (dataLe_trans k) (dataLe_total k) l
/-- sorted as items, or as what they stand for -/
theorem sort_map {α : Type} {enc : α → D} {kd : D → PyData} {le : α → α → Bool} {l : List α} (h : ∀ a ∈ l, ∀ b ∈ l, le a b = kLe kd (enc a) (enc b)) : (l.map enc).mergeSort (kLe kd) = (l.mergeSort le).map enc := (List.map_mergeSort h).symm
theorem sort_uniq {α : Type} {le : α → α → Bool} (anti : ∀ a b, le a b = true → le b a = true → a = b) : ∀ {l m : List α}, l.Perm m → l.Pairwise (fun a b => le a b = true) → m.Pairwise (fun a b => le a b = true) → l = m
  | [], m, p, _, _ => p.nil_eq
  | a :: l, [], p, _, _ => by simp at p
  | a :: l, b :: m, p, h1, h2 => by
    obtain ⟨a1, a2⟩ := List.pairwise_cons.mp h1
    obtain ⟨b1, b2⟩ := List.pairwise_cons.mp h2
    have e : a = b := by
      rcases List.mem_cons.mp (p.mem_iff.mp (List.mem_cons_self (a := a))) with q | q
      · exact q
      · rcases List.mem_cons.mp (p.mem_iff.mpr (List.mem_cons_self (a := b))) with z | z
        · exact z.symm
        · exact anti a b (a1 b z) (b1 a q)
    subst e
    rw [sort_uniq anti p.cons_inv a2 b2]
theorem sLe_anti (a b : Str) (h1 : sLe a b = true) (h2 : sLe b a = true) : a = b := by
  simp only [sLe, Bool.not_eq_true', decide_eq_false_iff_not, List.not_lt] at h1 h2
  exact str_ext (List.le_antisymm h1 h2)
theorem sLe_trans (a b c : Str) (h1 : sLe a b = true) (h2 : sLe b c = true) : sLe a c = true := by
  simp only [sLe, Bool.not_eq_true', decide_eq_false_iff_not, List.not_lt] at h1 h2 ⊢
  exact List.le_trans h1 h2
theorem sLe_total (a b : Str) : (sLe a b || sLe b a) = true := by
  rw [← data_str (k := PyData.str) (a := a) (b := b) rfl rfl, ← data_str (k := PyData.str) (a := b) (b := a) rfl rfl]
  exact dataLe_total _ a b
def srtS (l : List Str) : List Str := l.mergeSort sLe
theorem srtS_perm (l : List Str) : (srtS l).Perm l := List.mergeSort_perm l sLe
theorem srtS_sorted (l : List Str) : (srtS l).Pairwise fun a b => sLe a b = true := List.pairwise_mergeSort sLe_trans sLe_total l
theorem srtS_mem {l : List Str} {a : Str} : a ∈ srtS l ↔ a ∈ l := (srtS_perm l).mem_iff
theorem srtS_len (l : List Str) : (srtS l).length = l.length := (srtS_perm l).length_eq
/-- rising lists of the same members, each once, are one -/
theorem srt_ext {l m : List Str} (h1 : l.Pairwise fun a b => sLe a b = true) (h2 : m.Pairwise fun a b => sLe a b = true) (n1 : l.Nodup) (n2 : m.Nodup) (h : ∀ a, a ∈ l ↔ a ∈ m) : l = m :=
  sort_uniq sLe_anti ((List.perm_ext_iff_of_nodup n1 n2).mpr h) h1 h2
/-! ### sorted of a list of alike data -/
section
variable {X : Cx} {WE : WX}
def rSortA (X : Cx) : List V → Hp → VK → Prop := fun vs H Q => ∃ (la : Addr) (xs : List V) (B : Hp) (φ : List Addr) (W : Wd) (l : List D) (kd : D → PyData), vs = [.ref la] ∧ SqL X.K H la xs ∧ RelW X.K B φ W H ∧ Reps X.K B φ l xs ∧
  (∀ x ∈ l, x.py = some (kd x) ∧ (kd x).depth ≤ 60) ∧ PySem.W.AllAlike (l.map kd) ∧ PySem.W.Sortable (l.map kd) ∧ ∀ p ys, Reps X.K B φ (l.mergeSort (kLe kd)) ys → H p = none → Q (.ref p) (upd H p (.lst ys))
theorem call_sortA (hu : X.A.units + 64 < cLine) : CallR X (.builtin "sorted") (rSortA X) := by
  intro pins s σ H vs us Q I r h
  obtain ⟨la, xs, B, φ, W, l, kd, rfl, hs, R, rr, h1, h2, h3, q⟩ := h
  obtain rfl := Vals.ref1 r
  obtain ⟨its, rv, hl, hz⟩ := I.list hs
  have e : (l.map D.py) = (l.map kd).map some := by
    rw [List.map_map]
    exact List.map_congr_left fun x hx => (h1 x hx).1
  have er := PySem.W.each_of_map kd (each_reads I R rr rv e)
  refine PySem.W.sorted_data (enc := kd) (R := fun u d => ∃ v, RelV v u ∧ Rep X.K B φ d v) hl.isList (each_rel rr rv) er h2 h3 (by rw [← rr.length]; exact hz) (fun b hb => ?_) fun out ho eo => ?_
  · have := (h1 b hb).2
    omega
  · obtain ⟨ys, ry, vy⟩ := rel_each eo
    obtain ⟨ep, he'⟩ := PyProof.Rows.sortedAll_at s.heap its out.toArray
    have hlen : ys.length ≤ sizeLine := by
      rw [vy.length, ho, ← rr.length]
      exact hz
    exact ⟨.ref _, upd H (s.heap.objs.size + 1) (.lst ys), I.laid (t' := s.toks) (fun _ _ => PyProof.Rows.sortedAll_old) (Nat.le_succ _) ⟨hlen, out, ep, vy, he'⟩, rfl, q _ _ ry (I.hok.fresh (Nat.le_succ _))⟩
def bSortA (h : Bool) (ds : List D) : M D := fun S P X => match ds with
  | [d] => ∃ (l : List D) (kd : D → PyData), rdL S.W d = some l ∧ (∀ x ∈ l, x.py = some (kd x) ∧ (kd x).depth ≤ 60) ∧ PySem.W.AllAlike (l.map kd) ∧ PySem.W.Sortable (l.map kd) ∧ newL h (l.mergeSort (kLe kd)) S P X
  | _ => False
theorem ca_sortA {h : Bool} : CallA X.K WE (rSortA X) (bSortA h) := by
  intro B φ S σ H ds vs Q R r q
  obtain ⟨P, Xx, h1, h2, h3⟩ := q
  unfold bSortA at h1
  split at h1
  · rename_i d
    obtain ⟨v, rfl, rv⟩ := one_inv r
    obtain ⟨l, kd, e, g1, g2, g3, h1⟩ := h1
    obtain ⟨p, xs, rfl, hp, hr⟩ := rdL_ok R.w rv e
    exact ⟨p, xs, B, φ, S.W, l, kd, rfl, hp, R.w, hr, g1, g2, g3, fun pp ys ry hp => newL_ok (WE := WE) R ⟨P, Xx, h1, h2, h3⟩ ry hp⟩
  · exact h1.elim
/-! ### sorted of a dict whose keys are texts, any number of them -/
theorem reads_key {h : Heap} {k : L2.Key} {v : Value} (e : keyIs k v = true) : ∃ as, Reads h v (pyK k) as := by
  rcases keyIs_shape e with ⟨i, t, rfl, rfl⟩ | ⟨x, t, rfl, rfl⟩
  · exact ⟨[], .int i t⟩
  · exact ⟨[], .str x t⟩
theorem alike_keys {ks : List L2.Key} (h : (∃ ns : List Int, ks = ns.map Sum.inl) ∨ ∃ ss : List Str, ks = ss.map Sum.inr) : PySem.W.AllAlike (ks.map pyK) ∧ PySem.W.Sortable (ks.map pyK) := by
  rcases h with ⟨ns, rfl⟩ | ⟨ss, rfl⟩
  · refine ⟨fun d hd d' hd' => ?_, .inr fun d hd => ?_⟩
    · simp only [List.map_map, List.mem_map, Function.comp_apply] at hd hd'
      obtain ⟨a, _, rfl⟩ := hd
      obtain ⟨b, _, rfl⟩ := hd'
      simp [pyK, PySem.W.alike]
    · simp only [List.map_map, List.mem_map, Function.comp_apply] at hd
      obtain ⟨a, _, rfl⟩ := hd
      simp [pyK]
  · refine ⟨fun d hd d' hd' => ?_, .inr fun d hd => ?_⟩
    · simp only [List.map_map, List.mem_map, Function.comp_apply] at hd hd'
      obtain ⟨a, _, rfl⟩ := hd
      obtain ⟨b, _, rfl⟩ := hd'
      simp [pyK, PySem.W.alike]
    · simp only [List.map_map, List.mem_map, Function.comp_apply] at hd
      obtain ⟨a, _, rfl⟩ := hd
      simp [pyK]
theorem vals_keys : ∀ {out : List Value} {ks : List L2.Key}, PySem.W.EachIs (fun v k => keyIs k v = true) out ks → Vals (ks.map kV) out
  | _, _, .nil => .nil
  | _, _, .cons h t => .cons (by
      rcases keyIs_shape h with ⟨i, t, rfl, rfl⟩ | ⟨x, t, rfl, rfl⟩
      · exact ⟨t, rfl⟩
      · exact ⟨t, rfl⟩) (vals_keys t)
/-- the values of keys, sorted in a new list -/
theorem sort_keys {A : Around} {E : Value → Shared → Prop} {s : Shared} {prog : Program} {w : World} {a : Addr} {n : Nat} {vs : List Value} {ks : List L2.Key} {P : PySem.Fin → Shared → Prop} (hu : A.units + 64 < cLine) (ho : s.heap.get? a = some (seqObj "list" vs.toArray n)) (hv : PySem.W.EachIs (fun v k => keyIs k v = true) vs ks)
    (hal : (∃ ns : List Int, ks = ns.map Sum.inl) ∨ ∃ ss : List Str, ks = ss.map Sum.inr) (hz : vs.length ≤ sizeLine)
    (h : ∀ out, Vals ((ks.mergeSort kyLe).map kV) out → P (.done (.ret .none)) { s with heap := sortedHeap s.heap a vs out.toArray }) : wpAny (model prog w) A (Builtin.«list.sort» ⟨[.ref a], []⟩) P E s := by
  obtain ⟨h1, h2⟩ := alike_keys hal
  have er : ∀ hp : Heap, PySem.W.EachIs (fun v k => ∃ as, Reads hp v (pyK k) as) vs ks := fun hp => hv.mono fun v k e => reads_key e
  have em : ∀ hp : Heap, PySem.W.EachIs (fun v d => ∃ as, Reads hp v d as) vs (ks.map pyK) := fun hp => PySem.W.each_map (R := fun v d => ∃ as, Reads hp v d as) pyK (er hp)
  refine PySem.W.list_sort_vals (κ := PySem.W.dataKind (PySem.W.sortingHeap s.heap a vs) (ks.map pyK)) ho (PySem.W.SortsAt.data (em _) h1 h2 fun d hd => ?_) hz (h _ (vals_keys ?_))
  · obtain ⟨k, _, rfl⟩ := List.mem_map.mp hd
    cases k <;> simp [pyK, PyData.depth] <;> omega
  · exact PySem.W.sortVals_data false hv (er _) h1
theorem each_len {α β : Type} {R : α → β → Prop} : ∀ {l : List α} {m : List β}, l.length = m.length → (∀ (i : Nat) a b, l[i]? = some a → m[i]? = some b → R a b) → PySem.W.EachIs R l m
  | [], [], _, _ => .nil
  | [], _ :: _, h, _ => by simp at h
  | _ :: _, [], h, _ => by simp at h
  | a :: l, b :: m, h, q => .cons (q 0 a b rfl rfl) (each_len (by simpa using h) fun i a b h1 h2 => q (i + 1) a b (by simpa using h1) (by simpa using h2))
def rSortDT : List V → Hp → VK → Prop := fun xs H Q => ∃ (a : Addr) (m : List (Key × V)) (ks : List Str), xs = [.ref a] ∧ Rd H a (.dK m) ∧ m.map (·.1) = ks.map Sum.inr ∧
  ∀ (p : Addr), H p = none → Q (.ref p) (upd H p (.lst ((srtS ks).map V.str)))
theorem srt_keysS (ss : List Str) : ((ss.map Sum.inr : List L2.Key).mergeSort kyLe) = (srtS ss).map Sum.inr := (List.map_mergeSort (f := (Sum.inr : Str → L2.Key)) (r := sLe) (s := kyLe) fun a _ b _ => (data_str (k := pyK) (a := .inr a) (b := .inr b) rfl rfl).symm).symm
theorem srt_keysI (ns : List Int) : ((ns.map Sum.inl : List L2.Key).mergeSort kyLe) = (ns.mergeSort fun a b => decide (a ≤ b)).map Sum.inl := (List.map_mergeSort (f := (Sum.inl : Int → L2.Key)) (r := fun a b => decide (a ≤ b)) (s := kyLe) fun a _ b _ => (data_int (k := pyK) (a := .inl a) (b := .inl b) rfl rfl).symm).symm
theorem call_sortDT (hc : X.calm = true) (hu : X.A.units + 80 < cLine) : CallR X (.builtin "sorted") rSortDT := by
  rintro pins s σ H xs us Q I r ⟨a, m, ks, rfl, hd, hk, q⟩
  obtain ⟨u, rfl, rx⟩ := vals1 r
  cases rx
  obtain ⟨hz, lo, vs, rel, dd⟩ := dk_rd I.hok hd
  obtain ⟨ep, hat⟩ := dd.dictAt
  have hk2 : vs.map (·.1) = ks.map Sum.inr := rel.keys.symm.trans hk
  have hv : vs.length ≤ sizeLine := by rw [← rel.length]; exact hz
  refine Calls.call_function_entry kind_sorted plain_sorted entry_sorted (args_sorted1 _) ?_
  show wpAny _ _ (checkCount "sorted" 1 1 _ >>= _) _ _ _
  refine wpAny_bind (wpAny_pure (wpAny_bind (PySem.W.kdu_collect (A := X.A.in1) (PySem.W.kdl_dict (knd := mixKind X.prog X.w) (kvs := vs) (ep := ep) lo) (I.ok.hd hc) hat hv fun h1 tk acc kp hacc => ?_)))
  have hal : acc.toList.length = (vs.map (·.1)).length := by simp [hacc.1]
  have hS : PySem.W.EachIs (fun v k => keyIs k v = true) acc.toList (vs.map (·.1)) := each_len hal fun i v k e1 e2 => by
    obtain ⟨k', x, e3, e4⟩ := hacc.2 i v (by simpa using e1)
    rw [List.getElem?_map, e3] at e2
    cases e2
    exact e4
  have hzl : acc.toList.length ≤ sizeLine := by
    rw [hal, List.length_map]
    exact hv
  have J : Inv X pins σ H { s with heap := h1, toks := tk } := I.kept kp
  refine wpAny_bind (wpAny_newList ?_ hzl)
  have hob : (h1.push (seqObj "list" acc.toList.toArray 0)).get? h1.objs.size = some (seqObj "list" acc.toList.toArray 0) := Heap.get?_push_size _ rfl
  refine wpAny_bind (wpAny_holding (wpAny_call_entry slot_list_sort ⟨_, hob, rfl⟩ entry_list_sort
    (sort_keys (s := { s with heap := h1.push (seqObj "list" acc.toList.toArray 0), toks := tk }) (by show X.A.units + 2 + 64 < _; omega) hob hS (.inr ⟨ks, hk2⟩) hzl fun out vo => ⟨_, rfl, ?_⟩) (args_list_sort _)))
  obtain ⟨e1, he1⟩ := sortedHeap_at (vs := acc.toList) (out := out.toArray) hob
  rw [hk2, srt_keysS, List.map_map] at vo
  have vo : Vals ((srtS ks).map V.str) out := vo
  have hlen : ((srtS ks).map V.str).length ≤ sizeLine := by
    rw [List.length_map, srtS_len]
    have := congrArg List.length hk2
    simp at this
    omega
  refine wpAny_pure ⟨_, rfl, .ref h1.objs.size, upd H h1.objs.size (.lst ((srtS ks).map V.str)), J.laid (t' := tk) (fun b u e => ?_) (Nat.le_refl _) ⟨hlen, out, e1, vo, he1⟩, rfl, q _ (J.hok.fresh (Nat.le_refl _))⟩
  have hb := Heap.lt_size e
  exact (sortedHeap_old (Nat.ne_of_lt hb) (by rw [size_push']; exact Nat.lt_succ_of_lt hb)).trans (Heap.get?_push_of_some _ e)
def bSortDT (h : Bool) (ds : List D) : M D := fun S P X => match ds with
  | [d] => ∃ (ks : List Str) (l : List D), rdD S.W d = some (ks.map Sum.inr, l) ∧ newL h ((srtS ks).map D.str) S P X
  | _ => False
theorem ca_sortDT {K : PySem.W.Frag} {h : Bool} : CallA K WE rSortDT (bSortDT h) := by
  intro B φ S σ H ds vs Q R r q
  obtain ⟨P, Xx, h1, h2, h3⟩ := q
  unfold bSortDT at h1
  split at h1
  · rename_i d
    obtain ⟨v, rfl, rv⟩ := one_inv r
    obtain ⟨ks, l, e, h1⟩ := h1
    obtain ⟨a, m, rfl, hp, hk, hr⟩ := rdD_ok R.w rv e
    exact ⟨a, m, ks, rfl, hp, hk, fun p hp => newL_ok (WE := WE) R ⟨P, Xx, h1, h2, h3⟩ (reps_of_strs _) hp⟩
  · exact h1.elim
end
end Tw

set_option Elab.async false
set_option linter.all false
set_option maxRecDepth 100000
set_option maxHeartbeats 4000000
namespace Tw
open PySem PySem.Spec PyProof.Rows L2
theorem hu80 {k : Nat} {A : Around} (hr : Room k A) : A.units + 80 < cLine := by have := hr.un; omega
theorem nodup_of_map {α β : Type} {f : α → β} {l : List α} (h : (l.map f).Nodup) : l.Nodup := (List.pairwise_map.mp h).imp fun h e => h (congrArg f e)
/-! ### a statement, an expression that walks a dict -/
def keyD : L2.Key → D
  | .inl i => .int i
  | .inr s => .str s
def sLock (f : MS) : MS := fun S E => ∃ n ks l, S.W[n]? = some (.dct ks l) ∧ ∀ (od : Obj) (kvs : List (L2.Key × V)), kvs.map (·.1) = ks → f ⟨S.σ, S.W.set n (.lck od kvs l)⟩ ⟨fun S1 => S1.W[n]? = some (.lck od kvs l) ∧ E.nx ⟨S1.σ, S1.W.set n (.dct ks l)⟩,
  fun d S1 => S1.W[n]? = some (.lck od kvs l) ∧ E.rt d ⟨S1.σ, S1.W.set n (.dct ks l)⟩, fun S1 => S1.W[n]? = some (.lck od kvs l) ∧ E.bk ⟨S1.σ, S1.W.set n (.dct ks l)⟩, fun S1 => S1.W[n]? = some (.lck od kvs l) ∧ E.ct ⟨S1.σ, S1.W.set n (.dct ks l)⟩, fun _ _ => False⟩
def mLock (f : M D) : M D := fun S P _ => ∃ n ks l, S.W[n]? = some (.dct ks l) ∧ ∀ (od : Obj) (kvs : List (L2.Key × V)), kvs.map (·.1) = ks → f ⟨S.σ, S.W.set n (.lck od kvs l)⟩ (fun d S1 => S1.W[n]? = some (.lck od kvs l) ∧ P d ⟨S1.σ, S1.W.set n (.dct ks l)⟩) (fun _ _ => False)
section
variable {X : Cx} {WE : WX} {pos : Pos}
theorem lock_rel {K : PySem.W.Frag} {B H : Hp} {φ : List Addr} {S : AS} {σ : L2.St} {n : Nat} {ks : List L2.Key} {l : List D} (R : Rel K B φ S σ H) (hw : S.W[n]? = some (.dct ks l)) :
    ∃ a kvs, φ[n]? = some a ∧ H a = some (.dK kvs) ∧ kvs.map (·.1) = ks ∧ ∀ od, Rel K B φ ⟨S.σ, S.W.set n (.lck od kvs l)⟩ σ (upd H a (.frz od (.dK kvs))) := by
  obtain ⟨a, ha, kvs, hH, hk, hr⟩ := R.w.get hw
  exact ⟨a, kvs, ha, hH, hk, fun od => R.ext (Ext.refl _ _) (R.w.put (o := .lck od kvs l) ha ⟨upd_same, hr⟩)⟩
theorem unlock_rel {K : PySem.W.Frag} {B B1 H1 : Hp} {φ φ1 : List Addr} {S1 : AS} {σ1 : L2.St} {n : Nat} {od : Obj} {kvs : List (L2.Key × V)} {l : List D} {a : Addr} (ha : φ[n]? = some a) (e : Ext B φ B1 φ1) (R1 : Rel K B1 φ1 S1 σ1 H1) (w1 : S1.W[n]? = some (.lck od kvs l)) :
    H1 a = some (.frz od (.dK kvs)) ∧ Rel K B1 φ1 ⟨S1.σ, S1.W.set n (.dct (kvs.map (·.1)) l)⟩ σ1 (upd H1 a (.dK kvs)) := by
  obtain ⟨a', ha', hH, hr⟩ := R1.w.get w1
  rw [e.hnd ha] at ha'
  cases ha'
  exact ⟨hH, R1.ext (Ext.refl _ _) (R1.w.put (o := .dct (kvs.map (·.1)) l) (e.hnd ha) ⟨kvs, upd_same, rfl, hr⟩)⟩
theorem d_lock {st : Stmt} {f : MS} (h : PS X st (tS X.K WE f)) : PS X st (tS X.K WE (sLock f)) := PS.weak (ps_lock h) fun D σ H ⟨B, φ, S, R, E, ⟨n, ks, l, hw, h1⟩, hn, hr, hb, hc, hx⟩ => by
  obtain ⟨a, kvs, ha, hH, rfl, hR⟩ := lock_rel R hw
  refine ⟨a, .dK kvs, hH, trivial, fun od => ⟨B, φ, _, hR od, _, h1 od kvs rfl, ?_, ?_, ?_, ?_, fun _ _ _ _ _ _ _ _ z => z.elim⟩⟩
  · rintro S1 σ1 B1 φ1 H1 ⟨w1, q⟩ e R1
    obtain ⟨g1, g2⟩ := unlock_rel ha e R1 w1
    exact ⟨g1, hn _ _ _ _ _ q e g2⟩
  · rintro d S1 σ1 v B1 φ1 H1 ⟨w1, q⟩ e R1 rv
    obtain ⟨g1, g2⟩ := unlock_rel ha e R1 w1
    exact ⟨g1, hr _ _ _ _ _ _ _ q e g2 rv⟩
  · rintro S1 σ1 B1 φ1 H1 ⟨w1, q⟩ e R1
    obtain ⟨g1, g2⟩ := unlock_rel ha e R1 w1
    exact ⟨g1, hb _ _ _ _ _ q e g2⟩
  · rintro S1 σ1 B1 φ1 H1 ⟨w1, q⟩ e R1
    obtain ⟨g1, g2⟩ := unlock_rel ha e R1 w1
    exact ⟨g1, hc _ _ _ _ _ q e g2⟩
theorem de_lock {ex : Expr} {f : M D} (h : PE X ex (tE X.K WE f)) : PE X ex (tE X.K WE (mLock f)) := PE.weak (pe_lock h) fun σ H Q ⟨B, φ, S, R, P, Xx, ⟨n, ks, l, hw, h1⟩, h2, h3⟩ => by
  obtain ⟨a, kvs, ha, hH, rfl, hR⟩ := lock_rel R hw
  refine ⟨a, .dK kvs, hH, trivial, fun od => ⟨B, φ, _, hR od, _, _, h1 od kvs rfl, ?_, fun _ _ _ _ _ _ _ z => z.elim⟩⟩
  rintro d S1 v B1 φ1 H1 ⟨w1, q⟩ e R1 rv
  obtain ⟨g1, g2⟩ := unlock_rel ha e R1 w1
  exact ⟨g1, h2 _ _ _ _ _ _ q e g2 rv⟩
/-- the keys, the values, the pairs of a dict that is walked -/
def bKeys (d : D) : M Items := fun S P _ => match d with
  | .hnd n => (match S.W[n]? with
    | some (.lck od kvs l) => P ((kvs.map (·.1)).map keyD, fun W => W[n]? = some (.lck od kvs l)) S
    | _ => False)
  | _ => False
def bVals (d : D) : M Items := fun S P _ => match d with
  | .hnd n => (match S.W[n]? with
    | some (.lck od kvs l) => P (l, fun W => W[n]? = some (.lck od kvs l)) S
    | _ => False)
  | _ => False
def bItems (d : D) : M Items := fun S P _ => match d with
  | .hnd n => (match S.W[n]? with
    | some (.lck od kvs l) => P (((kvs.map (·.1)).zip l).map fun p => .tup [keyD p.1, p.2], fun W => W[n]? = some (.lck od kvs l)) S
    | _ => False)
  | _ => False
theorem rep_key {K : PySem.W.Frag} {B : Hp} {φ : List Addr} (k : L2.Key) : Rep K B φ (keyD k) (kV k) := by
  cases k <;> simp [keyD, kV, Rep]
section
variable {K : PySem.W.Frag} {B : Hp} {φ : List Addr} {n : Nat} {a : Addr} {od : Obj} {kvs : List (L2.Key × V)} {l : List D}
theorem lck_at {B1 H : Hp} {φ1 : List Addr} {W : Wd} (ha : φ[n]? = some a) (e : Ext B φ B1 φ1) (R : RelW K B1 φ1 W H) (c : W[n]? = some (.lck od kvs l)) : H a = some (.frz od (.dK kvs)) ∧ Reps K B1 φ1 l (kvs.map (·.2)) := by
  obtain ⟨a', ha', hH, hr⟩ := R.get c
  rw [e.hnd ha] at ha'
  cases ha'
  exact ⟨hH, hr⟩
theorem itOk_keys (ha : φ[n]? = some a) : ItOk K B φ ((kvs.map (·.1)).map keyD) (fun W => W[n]? = some (.lck od kvs l)) (Itk a od kvs) := by
  refine ⟨fun i B1 φ1 W H e R c hi => ⟨(lck_at ha e R c).1, by simpa using hi⟩, fun i B1 φ1 W H x H' e R c y d hd => ?_, fun i B1 φ1 W H e R c hi => ⟨(lck_at ha e R c).1, by simp at hi; omega⟩⟩
  obtain ⟨rfl, k, v, h1, rfl⟩ := y
  rw [List.getElem?_map, List.getElem?_map, h1] at hd
  cases hd
  exact ⟨B1, Ext.refl _ _, R, rep_key k⟩
theorem itOk_vals (ha : φ[n]? = some a) (hl : l.length = kvs.length) : ItOk K B φ l (fun W => W[n]? = some (.lck od kvs l)) (Itd a od kvs) := by
  refine ⟨fun i B1 φ1 W H e R c hi => ⟨(lck_at ha e R c).1, by rw [← hl]; exact hi⟩, fun i B1 φ1 W H x H' e R c y d hd => ?_, fun i B1 φ1 W H e R c hi => ⟨(lck_at ha e R c).1, by rw [← hl]; omega⟩⟩
  obtain ⟨rfl, k, h1⟩ := y
  obtain ⟨hH, hr⟩ := lck_at ha e R c
  obtain ⟨v, g1, g2⟩ := hr.get hd
  rw [List.getElem?_map, h1] at g1
  cases g1
  exact ⟨B1, Ext.refl _ _, R, g2⟩
theorem itOk_items (ha : φ[n]? = some a) (hl : l.length = kvs.length) : ItOk K B φ (((kvs.map (·.1)).zip l).map fun p => .tup [keyD p.1, p.2]) (fun W => W[n]? = some (.lck od kvs l)) (Iti a od kvs) := by
  refine ⟨fun i B1 φ1 W H e R c hi => ⟨(lck_at ha e R c).1, by simp at hi; omega⟩, fun i B1 φ1 W H x H' e R c y d hd => ?_, fun i B1 φ1 W H e R c hi => ⟨(lck_at ha e R c).1, by simp at hi; omega⟩⟩
  obtain ⟨T, k, v, h1, rfl, hT, rfl⟩ := y
  obtain ⟨hH, hr⟩ := lck_at ha e R c
  rw [List.getElem?_map, Option.map_eq_some_iff] at hd
  obtain ⟨⟨k', d'⟩, hz, rfl⟩ := hd
  obtain ⟨z1, z2⟩ := List.getElem?_zip_eq_some.mp hz
  rw [List.getElem?_map, h1] at z1
  cases z1
  obtain ⟨v', g1, g2⟩ := hr.get z2
  rw [List.getElem?_map, h1] at g1
  cases g1
  obtain ⟨w1, e1⟩ := R.frz (o := .tup [kV k, v]) hT
  refine ⟨_, e1, w1, ?_⟩
  simp only [Rep]
  exact ⟨T, _, rfl, .inl (.inl upd_same), Reps.cons (rep_key k) (Reps.cons (g2.mono e1 _ _) Reps.nil)⟩
end
variable {tg e : Expr} {fe : M D} {apos cpos : Pos}
theorem lck_len {K : PySem.W.Frag} {B H : Hp} {φ : List Addr} {W : Wd} {n : Nat} {od : Obj} {kvs : List (L2.Key × V)} {l : List D} (R : RelW K B φ W H) (c : W[n]? = some (.lck od kvs l)) : l.length = kvs.length := by
  obtain ⟨a', ha', hH, hr⟩ := R.get c
  simpa using hr.length.symm
theorem di_keys (he : PE X e (tE X.K WE fe)) : PI X tg e (tIt X.K WE (M.bind fe bKeys)) :=
  PI.weak (pi_keys he) fun σ H Q h => by
    obtain ⟨B, φ, S, R, run⟩ := h
    refine ⟨B, φ, S, R, run.bind.imp ?_⟩
    rintro x H1 ⟨d, B1, φ1, S1, e1, R1, r1, P, Xx, h1, h2, h3⟩
    unfold bKeys at h1
    split at h1
    · rename_i n
      split at h1
      · rename_i od kvs l hw
        simp only [Rep] at r1
        obtain ⟨a, ha, rfl⟩ := r1
        obtain ⟨hH, _⟩ := lck_at ha (Ext.refl _ _) R1.w hw
        exact ⟨a, od, rfl, .inl ⟨kvs, hH, h2 _ _ _ _ _ _ h1 (Ext.refl _ _) R1 (itOk_keys ha)⟩⟩
      · exact h1.elim
    · exact h1.elim
theorem di_vals (he : PE X e (tE X.K WE fe)) (hbase : attributeBase e "values" X.env (eval e X.env) = eval e X.env := by rfl) (hline : (apos.endLine == cpos.line) = true := by rfl) : PI X tg (.Call (.Attribute e "values" apos) [] [] cpos) (tIt X.K WE (M.bind fe bVals)) :=
  PI.weak (pi_values he hbase hline) fun σ H Q h => by
    obtain ⟨B, φ, S, R, run⟩ := h
    refine ⟨B, φ, S, R, run.bind.imp ?_⟩
    rintro x H1 ⟨d, B1, φ1, S1, e1, R1, r1, P, Xx, h1, h2, h3⟩
    unfold bVals at h1
    split at h1
    · rename_i n
      split at h1
      · rename_i od kvs l hw
        simp only [Rep] at r1
        obtain ⟨a, ha, rfl⟩ := r1
        obtain ⟨hH, _⟩ := lck_at ha (Ext.refl _ _) R1.w hw
        exact ⟨a, od, kvs, rfl, hH, h2 _ _ _ _ _ _ h1 (Ext.refl _ _) R1 (itOk_vals ha (lck_len R1.w hw))⟩
      · exact h1.elim
    · exact h1.elim
theorem di_items {elts : List Expr} {kk : Nat} {tpos : Pos} (he : PE X e (tE X.K WE fe)) (hbase : attributeBase e "items" X.env (eval e X.env) = eval e X.env := by rfl) (hline : (apos.endLine == cpos.line) = true := by rfl) : PI X (.Tuple elts kk tpos) (.Call (.Attribute e "items" apos) [] [] cpos) (tIt X.K WE (M.bind fe bItems)) :=
  PI.weak (pi_items he hbase hline) fun σ H Q h => by
    obtain ⟨B, φ, S, R, run⟩ := h
    refine ⟨B, φ, S, R, run.bind.imp ?_⟩
    rintro x H1 ⟨d, B1, φ1, S1, e1, R1, r1, P, Xx, h1, h2, h3⟩
    unfold bItems at h1
    split at h1
    · rename_i n
      split at h1
      · rename_i od kvs l hw
        simp only [Rep] at r1
        obtain ⟨a, ha, rfl⟩ := r1
        obtain ⟨hH, _⟩ := lck_at ha (Ext.refl _ _) R1.w hw
        exact ⟨a, od, kvs, rfl, hH, h2 _ _ _ _ _ _ h1 (Ext.refl _ _) R1 (itOk_items ha (lck_len R1.w hw))⟩
      · exact h1.elim
    · exact h1.elim
end
end Tw

set_option Elab.async false
set_option linter.all false
set_option maxRecDepth 100000
set_option maxHeartbeats 4000000
namespace Tw
open PySem PySem.Spec PyProof.Rows L2
/-! ### tiles and lines -/
def stands (kn : Nat) (t : Tile) : Bool := decide (t.s ≤ kn) && match t.u with
  | none => true
  | some u => decide (kn < u)
theorem stands_iff (kn : Nat) (t : Tile) : stands kn t = true ↔ t.s ≤ kn ∧ ∀ u, t.u = some u → kn < u := by
  unfold stands
  cases t.u <;> simp
theorem Prp.rise : ∀ {l : List LRow} {lo : Int}, Prp lo l → l.Pairwise fun a b => a.1 < b.1
  | [], _, _ => List.Pairwise.nil
  | (b, none, t) :: l, _, h => by
    have : l = [] := h.2
    subst this
    exact List.pairwise_singleton _ _
  | (b, some e, t) :: l, _, h => List.pairwise_cons.mpr ⟨fun r hr => by
      have := (h.2.2.begins hr).1
      have := h.2.1
      simp only
      omega, Prp.rise h.2.2⟩
theorem rise_nodup {l : List LRow} (h : l.Pairwise fun a b => a.1 < b.1) : l.Nodup := h.imp fun {a b} h e => by rw [e] at h; omega
theorem Good.rise {l : List LRow} (h : Good l) : l.Pairwise fun a b => a.1 < b.1 := h.prp.rise
theorem Good.nodup {l : List LRow} (h : Good l) : l.Nodup := rise_nodup h.rise
/-- what a tile of n knowings is -/
def TOk (n : Nat) (t : Tile) : Prop := 1 ≤ t.s ∧ t.s ≤ n ∧ ∀ u, t.u = some u → t.s < u ∧ u ≤ n
theorem tileEnd_run (kn : Nat) (line : List LRow) (t : Tile) : (tileEnd kn line t).run = t.run := by
  unfold tileEnd
  split <;> rfl
theorem tileEnd_s (kn : Nat) (line : List LRow) (t : Tile) : (tileEnd kn line t).s = t.s := by
  unfold tileEnd
  split <;> rfl
theorem run_new {r : LRow} (h : ∃ w, r.2.2 = [some w]) (key : Str) (kn : Nat) : (tileNew key kn r).run = r := by
  obtain ⟨b, e, t⟩ := r
  obtain ⟨w, rfl⟩ := h
  rfl
theorem filter_map_swap {α β : Type} (f : α → β) (p : β → Bool) (l : List α) : (l.filter fun a => p (f a)).map f = (l.map f).filter p := by
  rw [List.filter_map]
  rfl
structure TilesOk (ts : List Tel) (k : Str) : Prop where
  ok : ∀ t ∈ tilesK ts k, TOk ts.length t
  key : ∀ t ∈ tilesK ts k, t.key = k
  line : ∀ kn, kn ≤ ts.length → (((tilesK ts k).filter (stands kn)).map Tile.run).Perm (lineOf (ts.take kn) k)
theorem tiles_ok (k : Str) : ∀ {ts : List Tel}, (∀ t ∈ ts, okTel t) → TilesOk ts k := fun {ts} => snoc_ind (p := fun ts => (∀ t ∈ ts, okTel t) → TilesOk ts k) (fun _ => ⟨by simp [tilesK], by simp [tilesK], fun kn h => by
    have : kn = 0 := by simpa using h
    subst this
    simp [tilesK, lineOf]⟩) (fun ts t ih h => by
  have h0 : ∀ q ∈ ts, okTel q := fun q hq => h q (by simp [hq])
  have I := ih h0
  have hlen : (ts ++ [t]).length = ts.length + 1 := by simp
  have low : ∀ kn, kn ≤ ts.length → (ts ++ [t]).take kn = ts.take kn := fun kn hk => List.take_append_of_le_length hk
  by_cases c : t.key = k
  · have gl : Good (lineOf ts k) := lineOf_good h0
    have gl' : Good (lineOf (ts ++ [t]) k) := lineOf_good h
    have hT : tilesK (ts ++ [t]) k = tilesStep k (ts.length + 1) (lineOf ts k) (lineOf (ts ++ [t]) k) (tilesK ts k) := by rw [tilesK_snoc, if_pos c]
    generalize hL : lineOf (ts ++ [t]) k = L at hT gl' ⊢
    refine ⟨fun q hq => ?_, fun q hq => ?_, fun kn hk => ?_⟩
    · rw [hT] at hq
      rcases List.mem_append.mp hq with z | z
      · obtain ⟨q0, hq0, rfl⟩ := List.mem_map.mp z
        obtain ⟨a, b, d⟩ := I.ok q0 hq0
        unfold tileEnd
        split
        · exact ⟨a, by rw [hlen]; simp only; omega, fun u hu => by cases hu; rw [hlen]; simp only; omega⟩
        · exact ⟨a, by rw [hlen]; omega, fun u hu => by have := d u hu; rw [hlen]; omega⟩
      · obtain ⟨r, hr, rfl⟩ := List.mem_map.mp z
        exact ⟨by simp [tileNew], by rw [hlen]; simp [tileNew], fun u hu => by simp [tileNew] at hu⟩
    · rw [hT] at hq
      rcases List.mem_append.mp hq with z | z
      · obtain ⟨q0, hq0, rfl⟩ := List.mem_map.mp z
        have := I.key q0 hq0
        unfold tileEnd
        split <;> exact this
      · obtain ⟨r, hr, rfl⟩ := List.mem_map.mp z
        rfl
    · rw [hT, tilesStep, List.filter_append, List.map_append]
      by_cases hkn : kn ≤ ts.length
      · rw [low kn hkn]
        have e1 : ((tilesK ts k).map (tileEnd (ts.length + 1) L)).filter (stands kn) = ((tilesK ts k).filter (stands kn)).map (tileEnd (ts.length + 1) L) := by
          rw [List.filter_map]
          congr 1
          refine List.filter_congr fun q hq => ?_
          obtain ⟨a, b, d⟩ := I.ok q hq
          rw [Bool.eq_iff_iff, Function.comp_apply, stands_iff, stands_iff]
          unfold tileEnd
          split
          · rename_i z
            refine ⟨fun x => ⟨x.1, fun u hu => by rw [z.1] at hu; cases hu⟩, fun x => ⟨x.1, fun u hu => by cases hu; omega⟩⟩
          · rfl
        have e2 : (((L.filter fun r => decide (r ∉ lineOf ts k)).map (tileNew k (ts.length + 1))).filter (stands kn)) = [] := by
          rw [List.filter_eq_nil_iff]
          intro q hq z
          obtain ⟨r, hr, rfl⟩ := List.mem_map.mp hq
          have := ((stands_iff kn _).mp z).1
          simp [tileNew] at this
          omega
        rw [e1, e2, List.map_nil, List.append_nil, List.map_map]
        have e3 : (Tile.run ∘ tileEnd (ts.length + 1) L) = Tile.run := funext fun q => tileEnd_run _ _ q
        rw [e3]
        exact I.line kn hkn
      · have ek : kn = ts.length + 1 := by rw [hlen] at hk; omega
        subst ek
        rw [List.take_of_length_le (by rw [hlen]; exact Nat.le_refl _), hL]
        have e2 : (((L.filter fun r => decide (r ∉ lineOf ts k)).map (tileNew k (ts.length + 1))).filter (stands (ts.length + 1))).map Tile.run = L.filter fun r => decide (r ∉ lineOf ts k) := by
          rw [List.filter_eq_self.mpr fun q hq => ?_, List.map_map]
          · conv => rhs; rw [← List.map_id (L.filter fun r => decide (r ∉ lineOf ts k))]
            refine List.map_congr_left fun r hr => ?_
            exact run_new (gl'.fil r (List.mem_filter.mp hr).1) k _
          · obtain ⟨r, hr, rfl⟩ := List.mem_map.mp hq
            rw [stands_iff]
            exact ⟨by simp [tileNew], fun u hu => by simp [tileNew] at hu⟩
        have e1 : (((tilesK ts k).map (tileEnd (ts.length + 1) L)).filter (stands (ts.length + 1))).map Tile.run = (((tilesK ts k).filter (stands ts.length)).map Tile.run).filter fun r => decide (r ∈ L) := by
          rw [← filter_map_swap, List.filter_map, List.map_map, List.filter_filter]
          have e3 : (Tile.run ∘ tileEnd (ts.length + 1) L) = Tile.run := funext fun q => tileEnd_run _ _ q
          rw [e3]
          congr 1
          refine List.filter_congr fun q hq => ?_
          obtain ⟨a, b, d⟩ := I.ok q hq
          rw [Bool.eq_iff_iff, Function.comp_apply, stands_iff, Bool.and_eq_true, decide_eq_true_eq, stands_iff]
          unfold tileEnd
          split
          · rename_i z
            refine ⟨fun x => ?_, fun x => absurd x.1 z.2⟩
            have := x.2 _ rfl
            omega
          · rename_i z
            constructor
            · rintro ⟨x1, x2⟩
              have hu : q.u = none := by
                cases hu : q.u with
                | none => rfl
                | some u =>
                  have := x2 u hu
                  have := (d u hu).2
                  omega
              refine ⟨?_, by omega, fun u hu2 => by rw [hu] at hu2; cases hu2⟩
              by_cases m : q.run ∈ L
              · exact m
              · exact absurd ⟨hu, m⟩ z
            · rintro ⟨x1, x2, x3⟩
              refine ⟨by omega, fun u hu => ?_⟩
              have := x3 u hu
              have := (d u hu).2
              omega
        rw [e1, e2]
        have p1 := (I.line ts.length (Nat.le_refl _)).filter fun r => decide (r ∈ L)
        rw [List.take_of_length_le (Nat.le_refl _)] at p1
        refine (p1.append_right _).trans ?_
        have nd1 : ((lineOf ts k).filter fun r => decide (r ∈ L)).Nodup := gl.nodup.filter _
        have nd2 : (L.filter fun r => decide (r ∉ lineOf ts k)).Nodup := gl'.nodup.filter _
        refine (List.perm_ext_iff_of_nodup (List.nodup_append.mpr ⟨nd1, nd2, fun a ha b hb e => ?_⟩) gl'.nodup).mpr fun r => ?_
        · subst e
          have h1 := (List.mem_filter.mp ha).1
          have h2 := (List.mem_filter.mp hb).2
          simp at h2
          exact h2 h1
        · simp only [List.mem_append, List.mem_filter, decide_eq_true_eq]
          constructor
          · rintro (⟨_, x⟩ | ⟨x, _⟩) <;> exact x
          · intro x
            by_cases m : r ∈ lineOf ts k
            · exact .inl ⟨m, x⟩
            · exact .inr ⟨x, m⟩
  · have hT : tilesK (ts ++ [t]) k = tilesK ts k := by rw [tilesK_snoc, if_neg c]
    refine ⟨fun q hq => ?_, fun q hq => I.key q (by rwa [hT] at hq), fun kn hk => ?_⟩
    · rw [hT] at hq
      obtain ⟨a, b, d⟩ := I.ok q hq
      exact ⟨a, by rw [hlen]; omega, fun u hu => by have := d u hu; rw [hlen]; omega⟩
    · rw [hT]
      by_cases hkn : kn ≤ ts.length
      · rw [low kn hkn]
        exact I.line kn hkn
      · have ek : kn = ts.length + 1 := by rw [hlen] at hk; omega
        subst ek
        rw [List.take_of_length_le (by rw [hlen]; exact Nat.le_refl _), lineOf_snoc, if_neg c]
        have p := I.line ts.length (Nat.le_refl _)
        rw [List.take_of_length_le (Nat.le_refl _)] at p
        have e : (tilesK ts k).filter (stands (ts.length + 1)) = (tilesK ts k).filter (stands ts.length) := List.filter_congr fun q hq => by
          obtain ⟨a, b, d⟩ := I.ok q hq
          rw [Bool.eq_iff_iff, stands_iff, stands_iff]
          refine ⟨fun x => ⟨by omega, fun u hu => by have := x.2 u hu; omega⟩, fun x => ⟨by omega, fun u hu => ?_⟩⟩
          have := x.2 u hu
          have := (d u hu).2
          omega
        rw [e]
        exact p) ts
/-- .. from a first knowing on -/
theorem forget_line {ts : List Tel} {k : Str} (h : ∀ t ∈ ts, okTel t) {lo kn : Nat} (hlo : lo ≤ kn) (hk : kn ≤ ts.length) : (((forgetT lo (tilesK ts k)).filter (stands kn)).map Tile.run).Perm (lineOf (ts.take kn) k) := by
  have I := tiles_ok k h
  refine (List.Perm.of_eq ?_).trans (I.line kn hk)
  unfold forgetT
  rw [List.filter_map, List.map_map, List.filter_filter]
  have e3 : (Tile.run ∘ fun t : Tile => { t with s := max t.s lo }) = Tile.run := rfl
  rw [e3]
  congr 1
  refine List.filter_congr fun q hq => ?_
  rw [Bool.eq_iff_iff, Bool.and_eq_true, Function.comp_apply, stands_iff, stands_iff]
  simp only
  constructor
  · rintro ⟨⟨x1, x2⟩, x3⟩
    exact ⟨by omega, x2⟩
  · rintro ⟨x1, x2⟩
    refine ⟨⟨by omega, x2⟩, ?_⟩
    cases hu : q.u with
    | none => rfl
    | some u =>
      have := x2 u hu
      simp
      omega
theorem forget0 {ts : List Tel} {k : Str} (h : ∀ t ∈ ts, okTel t) : forgetT 0 (tilesK ts k) = tilesK ts k := by
  have I := tiles_ok k h
  unfold forgetT
  rw [List.filter_eq_self.mpr fun q hq => ?_]
  · conv => rhs; rw [← List.map_id (tilesK ts k)]
    refine List.map_congr_left fun q hq => ?_
    simp
  · obtain ⟨a, b, d⟩ := I.ok q hq
    cases hu : q.u with
    | none => rfl
    | some u =>
      have := d u hu
      simp
      omega
theorem forget_key {ts : List Tel} {k : Str} (h : ∀ t ∈ ts, okTel t) {lo : Nat} : ∀ t ∈ forgetT lo (tilesK ts k), t.key = k := fun t ht => by
  unfold forgetT at ht
  obtain ⟨q, hq, rfl⟩ := List.mem_map.mp ht
  exact (tiles_ok k h).key q (List.mem_filter.mp hq).1
/-- sorted by a whole number: the rising one -/
theorem sort_by {α : Type} {key : α → Int} : ∀ {l m : List α}, l.Perm m → l.Pairwise (fun a b => key a ≤ key b) → m.Pairwise (fun a b => key a < key b) → l = m
  | [], m, p, _, _ => p.nil_eq
  | a :: l, [], p, _, _ => by simp at p
  | a :: l, b :: m, p, h1, h2 => by
    obtain ⟨a1, a2⟩ := List.pairwise_cons.mp h1
    obtain ⟨b1, b2⟩ := List.pairwise_cons.mp h2
    have e : a = b := by
      rcases List.mem_cons.mp (p.mem_iff.mp (List.mem_cons_self (a := a))) with q | q
      · exact q
      · rcases List.mem_cons.mp (p.mem_iff.mpr (List.mem_cons_self (a := b))) with z | z
        · exact z.symm
        · have := a1 b z
          have := b1 a q
          omega
    subst e
    rw [sort_by p.cons_inv a2 b2]
/-- a row's begin, of its data -/
def begOf : D → PyData
  | .tup (.int b :: _) => .int b
  | _ => .none
theorem rows_sorted {l m : List LRow} (p : l.Perm m) (h : m.Pairwise fun a b => a.1 < b.1) : (l.map rowD).mergeSort (kLe begOf) = m.map rowD := by
  rw [sort_map (le := fun a b : LRow => decide (a.1 ≤ b.1)) fun a _ b _ => (data_int (k := begOf) (a := rowD a) (b := rowD b) rfl rfl).symm]
  congr 1
  refine sort_by (key := fun r : LRow => r.1) ((List.mergeSort_perm _ _).trans p) ?_ h
  refine (List.pairwise_mergeSort (le := fun a b : LRow => decide (a.1 ≤ b.1)) (fun a b c h1 h2 => ?_) (fun a b => ?_) l).imp fun {a b} h => by simpa using h
  · simp only [decide_eq_true_eq] at h1 h2 ⊢
    omega
  · simp only [Bool.or_eq_true, decide_eq_true_eq]
    omega
theorem rows_alike (l : List LRow) : PySem.W.AllAlike ((l.map rowD).map begOf) ∧ PySem.W.Sortable ((l.map rowD).map begOf) := by
  refine ⟨fun d hd d' hd' => ?_, .inr fun d hd => ?_⟩
  · simp only [List.map_map, List.mem_map, Function.comp_apply] at hd hd'
    obtain ⟨a, _, rfl⟩ := hd
    obtain ⟨b, _, rfl⟩ := hd'
    simp [begOf, rowD, PySem.W.alike]
  · simp only [List.map_map, List.mem_map, Function.comp_apply] at hd
    obtain ⟨a, _, rfl⟩ := hd
    simp [begOf, rowD]
end Tw

set_option Elab.async false
set_option linter.all false
set_option maxRecDepth 100000
set_option maxHeartbeats 4000000
namespace Tw
open PySem PySem.Spec PyProof.Rows L2
/-! ### tiled sheets among the objects -/
def live (lo : Nat) (t : Tile) : Bool := match t.u with
  | none => true
  | some u => decide (lo < u)
theorem live_end {lo kn : Nat} {L : List LRow} (h : lo < kn) (q : Tile) : live lo (tileEnd kn L q) = live lo q := by
  unfold tileEnd
  split
  · rename_i z
    simp [live, z.1, h]
  · rfl
theorem forgetT_eq (lo : Nat) (l : List Tile) : forgetT lo l = (l.filter (live lo)).map fun t => { t with s := max t.s lo } := rfl
theorem forget_step {ts : List Tel} {t : Tel} {lo : Nat} (hlo : lo ≤ ts.length) : forgetT lo (tilesK (ts ++ [t]) t.key) = tilesStep t.key (ts.length + 1) (lineOf ts t.key) (lineOf (ts ++ [t]) t.key) (forgetT lo (tilesK ts t.key)) := by
  rw [tilesK_snoc, if_pos rfl]
  rw [forgetT_eq, forgetT_eq]
  unfold tilesStep
  rw [List.filter_append, List.map_append]
  congr 1
  · rw [List.filter_map, List.map_map, List.map_map]
    have e : (tilesK ts t.key).filter (live lo ∘ tileEnd (ts.length + 1) (lineOf (ts ++ [t]) t.key)) = (tilesK ts t.key).filter (live lo) := List.filter_congr fun q hq => live_end (by omega) q
    rw [e]
    refine List.map_congr_left fun q hq => ?_
    simp only [Function.comp_apply]
    unfold tileEnd
    have er : Tile.run { q with s := max q.s lo } = q.run := rfl
    simp only [er]
    split <;> rfl
  · rw [List.filter_eq_self.mpr fun q hq => ?_]
    · conv => rhs; rw [← List.map_id (((lineOf (ts ++ [t]) t.key).filter fun r => decide (r ∉ lineOf ts t.key)).map (tileNew t.key (ts.length + 1)))]
      refine List.map_congr_left fun q hq => ?_
      obtain ⟨r, hr, rfl⟩ := List.mem_map.mp hq
      simp only [tileNew, id]
      congr 1
      omega
    · obtain ⟨r, hr, rfl⟩ := List.mem_map.mp hq
      rfl
def tileNewD (key : Str) (kn : Nat) (r : LRow) : D := tileD (tileNew key kn r)
theorem kept_tiled {C : Str} (h : C ≠ "Sheet") (ts : List Tel) (lo : Nat) (k : Str) : keptOf C ts lo k = (forgetT lo (tilesK ts k)).map tileD := if_neg h
theorem kept_other {C : Str} (h : C ≠ "Sheet") {ts : List Tel} {t : Tel} {lo : Nat} {k : Str} (hk : t.key ≠ k) : keptOf C (ts ++ [t]) lo k = keptOf C ts lo k := by
  rw [kept_tiled h, kept_tiled h, tilesK_snoc, if_neg hk]
theorem shF_by {C : Str} (h : C ≠ "Sheet") {a c lo : Nat} {xs : List Nat} : (shFields C a c xs lo).lookup ("by_key" : Str) = some (D.hnd c) := by
  unfold shFields
  rw [if_neg h]
  rfl
theorem repD_set {k : Str} {d : D} : ∀ {ks : List Str} {vs : List D} {i : Nat}, ks.Nodup → ks.length = vs.length → ks[i]? = some k → repD (ks.map Sum.inr) vs (.inr k) d = vs.set i d
  | [], _, _, _, _, h => by simp at h
  | _ :: _, [], _, _, h, _ => by simp at h
  | k0 :: ks, v :: vs, 0, nd, hl, h => by
    simp at h
    subst h
    have hr : ∀ {ks : List Str} {vs : List D}, k0 ∉ ks → repD (ks.map Sum.inr) vs (.inr k0) d = vs := by
      intro ks
      induction ks with
      | nil => intro vs _; cases vs <;> rfl
      | cons a l ih =>
        intro vs hn
        cases vs with
        | nil => rfl
        | cons v vs =>
          simp only [List.mem_cons, not_or] at hn
          simp only [List.map_cons, repD]
          rw [if_neg (fun z => hn.1 (Sum.inr.inj z).symm), ih hn.2]
    simp only [List.map_cons, repD, List.set_cons_zero]
    rw [hr (List.nodup_cons.mp nd).1]
    simp
  | k0 :: ks, v :: vs, i + 1, nd, hl, h => by
    have hne : k0 ≠ k := fun z => (List.nodup_cons.mp nd).1 (z ▸ List.mem_of_getElem? (by simpa using h))
    simp only [List.map_cons, repD, List.set_cons_succ]
    rw [if_neg fun z => hne (Sum.inr.inj z), repD_set (List.nodup_cons.mp nd).2 (by simpa using hl) (by simpa using h)]
theorem putD_in {ks : List Str} {vs : List D} {k : Str} {d : D} {i : Nat} (nd : ks.Nodup) (hl : ks.length = vs.length) (h : ks[i]? = some k) : putD (ks.map Sum.inr) vs (.inr k) d = (ks.map Sum.inr, vs.set i d) := by
  unfold putD
  rw [if_pos, repD_set nd hl h]
  rw [List.any_eq_true]
  exact ⟨.inr k, List.mem_map.mpr ⟨k, List.mem_of_getElem? h, rfl⟩, by simp⟩
def posK : List Str → Str → Nat
  | [], _ => 0
  | a :: l, k => if a = k then 0 else posK l k + 1
theorem posK_get {k : Str} : ∀ {ks : List Str}, k ∈ ks → ks[posK ks k]? = some k
  | [], h => by cases h
  | a :: l, h => by
    unfold posK
    by_cases c : a = k
    · rw [if_pos c, c]; rfl
    · rw [if_neg c]
      rcases List.mem_cons.mp h with q | q
      · exact absurd q.symm c
      · simpa using posK_get q
/-- the handles of the keys' lists when the key of a telling has a new one -/
def hsPut (ks : List Str) (hs : List Nat) (k : Str) (m : Nat) : List Nat := if k ∈ ks then hs.set (posK ks k) m else hs ++ [m]
theorem put_hs {ks : List Str} {hs : List Nat} {k : Str} {m : Nat} (nd : ks.Nodup) (hl : hs.length = ks.length) : putD (ks.map Sum.inr) (hs.map D.hnd) (.inr k) (.hnd m) = ((addK ks k).map Sum.inr, (hsPut ks hs k m).map D.hnd) := by
  unfold hsPut
  by_cases c : k ∈ ks
  · rw [if_pos c, addK_in c, putD_in (vs := hs.map D.hnd) nd (by simpa using hl.symm) (posK_get c), List.map_set]
  · rw [if_neg c, addK_out c, putD_out c]
    simp
theorem took {C : Str} {W W' : Wd} {n a c b m : Nat} {hs : List Nat} {ts : List Tel} {t : Tel} {lo : Nat} (hC : C ≠ "Sheet") (sh : Sh C W (n :: a :: c :: (hs ++ [b])) n (ts ++ [t]) ts lo) (nd : (n :: a :: c :: (hs ++ [b])).Nodup)
    (w1 : W[n]? = some (.ins C (shFields C a c [b] lo))) (w2 : W[a]? = some (.lst ((ts ++ [t]).map telD))) (w4 : W[b]? = some (.dct [] [])) (hl : hs.length = (keysOf ts).length)
    (w5 : ∀ (i : Nat) (k : Str) (h : Nat), (keysOf ts)[i]? = some k → hs[i]? = some h → W[h]? = some (.lst (keptOf C ts lo k)))
    (hm : W.length ≤ m) (hm2 : m < W'.length) (e : ∀ j ∈ n :: a :: c :: (hs ++ [b]), j ≠ c → W'[j]? = W[j]?) (ec : W'[c]? = some (.dct ((addK (keysOf ts) t.key).map Sum.inr) ((hsPut (keysOf ts) hs t.key m).map D.hnd)))
    (em : W'[m]? = some (.lst (keptOf C (ts ++ [t]) lo t.key))) (hlen : W.length ≤ W'.length) :
    Sh C W' (n :: a :: c :: (hsPut (keysOf ts) hs t.key m ++ [b])) n (ts ++ [t]) (ts ++ [t]) lo := by
  have hlt := sh.lt
  have nk := keysOf_nodup ts
  have hmem : ∀ j ∈ hsPut (keysOf ts) hs t.key m, j ∈ hs ∨ j = m := by
    intro j hj
    unfold hsPut at hj
    split at hj
    · exact List.mem_or_eq_of_mem_set hj
    · simpa using hj
  have hmn : ∀ j ∈ n :: a :: c :: (hs ++ [b]), j ≠ m := fun j hj z => by
    have := hlt j hj
    omega
  have ndp : (hsPut (keysOf ts) hs t.key m).Nodup := by
    have nh : hs.Nodup := by
      have h1 := (List.nodup_cons.mp nd).2
      have h2 := (List.nodup_cons.mp h1).2
      have h3 := (List.nodup_cons.mp h2).2
      exact (List.nodup_append.mp h3).1
    have hx : m ∉ hs := fun z => hmn m (by simp [z]) rfl
    unfold hsPut
    split
    · exact nodup_set nh hx
    · exact List.nodup_append.mpr ⟨nh, by simp, fun x hx' y hy => by simp at hy; subst hy; exact fun z => hx (z ▸ hx')⟩
  refine ⟨sh.cls, sh.ok, .inl rfl, sh.z, sh.lo0, by have := sh.loz; simp; omega, a, c, hsPut (keysOf ts) hs t.key m, [b], rfl, ?_, ?_, ?_, ?_, ?_, .inr ⟨hC, b, rfl, ?_⟩, ?_, ?_⟩
  · simp only [List.nodup_cons, List.mem_cons, List.mem_append, List.not_mem_nil, or_false, not_or, List.nodup_append] at nd ⊢
    obtain ⟨⟨n1, n2, n3, n4⟩, ⟨a1, a2, a3⟩, ⟨c1, c2⟩, h1, h2, h3⟩ := nd
    have inn : ∀ x, x ∉ hs → x ≠ m → x ∉ hsPut (keysOf ts) hs t.key m := fun x h1 h2 z => (hmem x z).elim h1 h2
    have mn := hmn n (by simp)
    have ma := hmn a (by simp)
    have mc := hmn c (by simp)
    have mb := hmn b (by simp)
    refine ⟨⟨n1, n2, inn n n3 mn, n4⟩, ⟨a1, inn a a2 ma, a3⟩, ⟨inn c c1 mc, c2⟩, ndp, by simp, fun x hx y hy => ?_⟩
    subst hy
    rcases hmem x hx with q | q
    · exact h3 x q y rfl
    · subst q
      exact mb.symm
  · intro i hi
    simp only [List.mem_cons, List.mem_append, List.not_mem_nil, or_false] at hi
    have old : ∀ i, i ∈ n :: a :: c :: (hs ++ [b]) → i < W'.length := fun i h => by have := hlt i h; omega
    rcases hi with q | q | q | q | q
    · exact old i (by simp [q])
    · exact old i (by simp [q])
    · exact old i (by simp [q])
    · rcases hmem i q with z | z
      · exact old i (by simp [z])
      · omega
    · exact old i (by simp [q])
  · rw [e n (by simp) (fun z => by subst z; simp at nd)]
    exact w1
  · rw [e a (by simp) (fun z => by subst z; simp at nd)]
    exact w2
  · rw [ec, keysOf_snoc]
  · rw [e b (by simp) (fun z => by subst z; simp at nd)]
    exact w4
  · rw [keysOf_snoc]
    unfold hsPut
    split
    · rename_i q
      rw [addK_in q, List.length_set, hl]
    · rename_i q
      rw [addK_out q]
      simp [hl]
  · intro i k h hk hh
    rw [keysOf_snoc] at hk
    unfold hsPut at hh
    have oldh : ∀ (i h : Nat), hs[i]? = some h → W'[h]? = W[h]? := fun i h z => e h (by simp [List.mem_of_getElem? z]) fun y => by
      have := List.mem_of_getElem? z
      subst y
      simp [this] at nd
    split at hh
    · rename_i q
      rw [addK_in q] at hk
      by_cases ci : posK (keysOf ts) t.key = i
      · have hki : (keysOf ts)[i]? = some t.key := by rw [← ci]; exact posK_get q
        rw [hki] at hk
        cases hk
        rw [ci, List.getElem?_set_self (by rw [hl]; exact (List.getElem?_eq_some_iff.mp hki).1)] at hh
        cases hh
        exact em
      · rw [List.getElem?_set_ne ci] at hh
        rw [oldh i h hh, kept_other hC (fun z => ci (by
          subst z
          exact nodup_get nk (posK_get q) hk))]
        exact w5 i k h hk hh
    · rename_i q
      rw [addK_out q] at hk
      by_cases ci : i < hs.length
      · rw [List.getElem?_append_left ci] at hh
        rw [List.getElem?_append_left (by omega)] at hk
        rw [oldh i h hh, kept_other hC (fun z => q (z ▸ List.mem_of_getElem? hk))]
        exact w5 i k h hk hh
      · have hi : i = hs.length := by
          have := (List.getElem?_eq_some_iff.mp hh).1
          simp at this
          omega
        subst hi
        rw [List.getElem?_append_right (Nat.le_refl _)] at hh
        rw [hl, List.getElem?_append_right (Nat.le_refl _)] at hk
        simp at hh hk
        subst hh
        subst hk
        exact em
/-- what stays: all but c, the new ones -/
theorem took_fp {n a c b m : Nat} {hs : List Nat} {ks : List Str} {k : Str} {W : Wd} (hm : W.length ≤ m) : ∀ i ∈ n :: a :: c :: (hsPut ks hs k m ++ [b]), i ∈ n :: a :: c :: (hs ++ [b]) ∨ W.length ≤ i := by
  intro i hi
  simp only [List.mem_cons, List.mem_append, List.not_mem_nil, or_false] at hi ⊢
  have hmem : ∀ j ∈ hsPut ks hs k m, j ∈ hs ∨ j = m := by
    intro j hj
    unfold hsPut at hj
    split at hj
    · exact List.mem_or_eq_of_mem_set hj
    · simpa using hj
  rcases hi with q | q | q | q | q
  · exact .inl (.inl q)
  · exact .inl (.inr (.inl q))
  · exact .inl (.inr (.inr (.inl q)))
  · rcases hmem i q with z | z
    · exact .inl (.inr (.inr (.inr (.inl z))))
    · exact .inr (by omega)
  · exact .inl (.inr (.inr (.inr (.inr q))))
theorem Sh.newT (W : Wd) : Sh "Tiled" (W ++ [O.ins "Tiled" [("told_so", .hnd (W.length + 1)), ("became", .hnd (W.length + 2)), ("by_key", .hnd (W.length + 3))], O.lst [], O.dct [] [], O.dct [] []]) [W.length, W.length + 1, W.length + 3, W.length + 2] W.length [] [] 0 := by
  refine ⟨by simp, by simp, .inl rfl, by simp, fun _ => rfl, by simp, W.length + 1, W.length + 3, [], [W.length + 2], rfl, ?_, ?_, ?_, ?_, ?_, .inr ⟨by decide, W.length + 2, rfl, ?_⟩, rfl, ?_⟩
  · simp
  · simp
  · rw [List.getElem?_append_right (by omega)]
    simp only [Nat.sub_self, List.getElem?_cons_zero]
    rfl
  · rw [List.getElem?_append_right (by omega)]
    simp
  · rw [List.getElem?_append_right (by omega)]
    simp [keysOf]
  · rw [List.getElem?_append_right (by omega)]
    simp
  · intro i k h e
    simp [keysOf] at e
theorem tiles_len (k : Str) : ∀ {ts : List Tel}, (∀ t ∈ ts, okTel t) → (tilesK ts k).length ≤ ts.length * (ts.length + 1) := fun {ts} => snoc_ind (p := fun ts => (∀ t ∈ ts, okTel t) → (tilesK ts k).length ≤ ts.length * (ts.length + 1)) (fun _ => by simp [tilesK]) (fun ts t ih h => by
  have h0 : ∀ q ∈ ts, okTel q := fun q hq => h q (by simp [hq])
  have i := ih h0
  have hl : (ts ++ [t]).length = ts.length + 1 := by simp
  rw [hl, tilesK_snoc]
  have e : (ts.length + 1) * (ts.length + 1 + 1) = ts.length * (ts.length + 1) + 2 * (ts.length + 1) := by
    rw [Nat.add_mul, Nat.mul_add, Nat.mul_add, Nat.mul_add]
    omega
  split
  · have h1 := lineOf_len (k := k) h
    rw [hl] at h1
    have h2 := List.length_filter_le (fun r => decide (r ∉ lineOf ts k)) (lineOf (ts ++ [t]) k)
    unfold tilesStep
    rw [List.length_append, List.length_map, List.length_map]
    omega
  · omega) ts
theorem forget_len (lo : Nat) (l : List Tile) : (forgetT lo l).length ≤ l.length := by
  rw [forgetT_eq, List.length_map]
  exact List.length_filter_le _ _
theorem tiles_small {ts : List Tel} {k : Str} (h : ∀ t ∈ ts, okTel t) (hz : ts.length ≤ 900) (lo : Nat) : (forgetT lo (tilesK ts k)).length ≤ 900000 := by
  have h1 := tiles_len k h
  have h2 := forget_len lo (tilesK ts k)
  have h3 : ts.length * (ts.length + 1) ≤ 900 * 901 := Nat.mul_le_mul hz (by omega)
  omega
theorem keysOf_take {ts : List Tel} {k : Str} {n : Nat} (h : k ∈ keysOf (ts.take n)) : k ∈ keysOf ts := by
  obtain ⟨t, ht, e⟩ := keysOf_mem.mp h
  exact keysOf_mem.mpr ⟨t, List.mem_of_mem_take ht, e⟩
theorem tiles_none {ts : List Tel} {k : Str} (h : k ∉ keysOf ts) : tilesK ts k = [] := by
  revert h
  refine snoc_ind (p := fun ts => k ∉ keysOf ts → tilesK ts k = []) (fun _ => rfl) (fun ts t ih h => ?_) ts
  rw [keysOf_snoc, addK_mem] at h
  rw [tilesK_snoc, if_neg fun z => h (.inr z.symm)]
  exact ih fun z => h (.inl z)
/-! ### the keys -/
def keysAt (ts : List Tel) (k : Nat) : List Str := (srtS (keysOf ts)).filter fun key => decide (lineOf (ts.take k) key ≠ [])
def M_Sheet_keys_told : FC := fun ds W P _ => ∃ C n fp ts lo, ds = [.hnd n] ∧ Sh C W fp n ts ts lo ∧ P (.lst ((srtS (keysOf ts)).map D.str)) W
def M_Sheet_keys_at : FC := fun ds W P X => ∃ C n fp ts lo k, ds = [.hnd n, .int k] ∧ Sh C W fp n ts ts lo ∧ knAsk ts lo k (fun x => X x W) (lstR P W ((keysAt ts k.toNat).map D.str))
def tileOrd : D → PyData
  | .tup [.str k, _, .int b, _, .int s, _] => .tuple [.str k, .int s, .int b]
  | _ => .none
end Tw

set_option Elab.async false
set_option linter.all false
set_option maxRecDepth 100000
set_option maxHeartbeats 4000000
namespace Tw
open PySem PySem.Spec PyProof.Rows L2
/-! ### data are equal to themselves; texts by lists -/
mutual
theorem eq_self : ∀ (n : Nat) (d : D), d.lay n = true → d.eq d = true
  | _, .non, _ => rfl
  | _, .bl b, _ => by simp [D.eq]
  | _, .int b, _ => by simp [D.eq]
  | _, .str b, _ => by simp [D.eq]
  | 0, .tup l, h => by simp [D.lay] at h
  | 0, .lst l, h => by simp [D.lay] at h
  | 0, .ty n, h => by simp [D.lay] at h
  | 0, .gl a, h => by simp [D.lay] at h
  | 0, .gb a, h => by simp [D.lay] at h
  | 0, .dct ks l, h => by simp [D.lay] at h
  | 0, .sq l, h => by simp [D.lay] at h
  | 0, .hnd n, h => by simp [D.lay] at h
  | n + 1, .tup l, h => by rw [de_tup_tup]; exact eqs_self' n l (by simpa [D.lay] using h)
  | n + 1, .lst l, h => by rw [de_lst_lst]; exact eqs_self' n l (by simpa [D.lay] using h)
  | n + 1, .sq l, h => by rw [de_sq_sq]; exact eqs_self' n l (by simpa [D.lay] using h)
  | n + 1, .ty _, h => by simp [D.lay] at h
  | n + 1, .gl a, h => by simp [D.lay] at h
  | n + 1, .gb a, h => by simp [D.lay] at h
  | n + 1, .dct ks l, h => by simp [D.lay] at h
  | n + 1, .hnd _, h => by simp [D.lay] at h
theorem eqs_self' : ∀ (n : Nat) (l : List D), D.lays n l = true → D.eqs l l = true
  | _, [], _ => rfl
  | n, d :: l, h => by
    rw [D.lays, Bool.and_eq_true] at h
    rw [deqs_cc, eq_self n d h.1, eqs_self' n l h.2]
    rfl
end
theorem eqs_strs : ∀ l m : List Str, D.eqs (l.map D.str) (m.map D.str) = decide (l = m)
  | [], [] => rfl
  | [], b :: m => by simp [D.eqs]
  | a :: l, [] => by simp [D.eqs]
  | a :: l, b :: m => by
    rw [List.map_cons, List.map_cons, deqs_cc, de_str_str, eqs_strs l m, Bool.eq_iff_iff]
    simp
theorem eqs_ints : ∀ l m : List Int, D.eqs (l.map D.int) (m.map D.int) = decide (l = m)
  | [], [] => rfl
  | [], b :: m => by simp [D.eqs]
  | a :: l, [] => by simp [D.eqs]
  | a :: l, b :: m => by
    rw [List.map_cons, List.map_cons, deqs_cc, de_int_int, eqs_ints l m, Bool.eq_iff_iff]
    simp
theorem lay_rows (n : Nat) (l : List LRow) : (D.lst (l.map rowD)).lay (n + 2) = true := by rw [D.lay]; exact lays_rows _ _
theorem lay_strs (n : Nat) (l : List Str) : (D.lst (l.map D.str)).lay (n + 1) = true := by rw [D.lay]; exact lays_strs _ _
theorem lay_row' (n : Nat) (r : LRow) : (rowD r).lay (n + 1) = true := by
  have := lays_rows n [r]
  simpa [D.lays] using this
theorem lays_of {α : Type} {f : α → D} {n : Nat} : ∀ {l : List α}, (∀ x ∈ l, (f x).lay n = true) → D.lays n (l.map f) = true
  | [], _ => by simp [D.lays]
  | a :: l, h => by rw [List.map_cons, D.lays, h a List.mem_cons_self, lays_of fun x hx => h x (List.mem_cons_of_mem _ hx)]; rfl
theorem bels_of {α : Type} {f : α → D} {n : Nat} : ∀ {l : List α}, (∀ x ∈ l, (f x).bel n = true) → D.bels n (l.map f) = true
  | [], _ => by simp [D.bels]
  | a :: l, h => by rw [List.map_cons, D.bels, h a List.mem_cons_self, bels_of fun x hx => h x (List.mem_cons_of_mem _ hx)]; rfl
theorem bel_rows (n : Nat) (l : List LRow) : (D.lst (l.map rowD)).bel n = true := by rw [D.bel]; exact bels_rows _ _
theorem bel_strs (n : Nat) (l : List Str) : (D.lst (l.map D.str)).bel n = true := by rw [D.bel]; exact bels_strs _ _
theorem cdivW4 (i : Int) : CDivW i 4 = True := by simp [cdivW (i := i) (j := 4) (by decide) (by decide)]
theorem cdivW3 (i : Int) : CDivW i 3 = True := by simp [cdivW (i := i) (j := 3) (by decide) (by decide)]
theorem cdivW5 (i : Int) : CDivW i 5 = True := by simp [cdivW (i := i) (j := 5) (by decide) (by decide)]
theorem cdivW6 (i : Int) : CDivW i 6 = True := by simp [cdivW (i := i) (j := 6) (by decide) (by decide)]
theorem cdivW7 (i : Int) : CDivW i 7 = True := by simp [cdivW (i := i) (j := 7) (by decide) (by decide)]
/-- an item by a number within bounds -/
theorem pickD {α : Type} {enc : α → D} {l : List α} {r : Int} (h0 : 0 ≤ r) (h1 : r < (l.length : Nat)) : ∃ a ∈ l, atI (l.map enc) r = some (enc a) := by
  obtain ⟨d, hd, e⟩ := atI_ge (l := l.map enc) h0 (by simpa using h1)
  obtain ⟨a, ha, rfl⟩ := List.mem_map.mp hd
  exact ⟨a, ha, e⟩
theorem knAsk_of {ts : List Tel} {lo : Nat} {k : Int} {X : Exn → Prop} {P : Prop} (h1 : ¬ (0 ≤ k ∧ k ≤ (ts.length : Nat)) → X noKn) (h2 : 0 ≤ k → k ≤ (ts.length : Nat) → k < (lo : Nat) → X noFg) (h3 : 0 ≤ k → k ≤ (ts.length : Nat) → ¬ k < (lo : Nat) → P) : knAsk ts lo k X P := by
  unfold knAsk
  split
  · rename_i c
    split
    · rename_i d
      exact h2 c.1 c.2 d
    · rename_i d
      exact h3 c.1 c.2 d
  · rename_i c
    exact h1 c
theorem knAsk_ok {ts : List Tel} {lo : Nat} {k : Int} {X : Exn → Prop} {P : Prop} (h0 : 0 ≤ k) (h1 : k ≤ (ts.length : Nat)) (h2 : (lo : Int) ≤ k) (h : P) : knAsk ts lo k X P := by
  unfold knAsk
  rw [if_pos ⟨h0, h1⟩, if_neg (by omega)]
  exact h
end Tw

set_option Elab.async false
set_option linter.all false
set_option maxRecDepth 100000
set_option maxHeartbeats 4000000
namespace Tw
open PySem PySem.Spec PyProof.Rows L2
/-! ### all tiles -/
def tKey (t : Tile) : PyData := .tuple [.str t.key, .int t.s, .int t.b]
def tLe (a b : Tile) : Bool := PySem.W.dataLe false tKey a b
def allTiles (ts : List Tel) (lo : Nat) (ks : List Str) : List Tile := (ks.map fun k => forgetT lo (tilesK ts k)).flatten
def tilesOf (ts : List Tel) (lo : Nat) : List Tile := (allTiles ts lo (keysOf ts)).mergeSort tLe
theorem tiles_sorted (l : List Tile) : (l.map tileD).mergeSort (kLe tileOrd) = (l.mergeSort tLe).map tileD := sort_map fun a _ b _ => rfl
theorem tiles_alike (l : List Tile) : PySem.W.AllAlike ((l.map tileD).map tileOrd) ∧ PySem.W.Sortable ((l.map tileD).map tileOrd) := by
  refine ⟨fun d hd d' hd' => ?_, .inl fun d hd => ?_⟩
  · simp only [List.map_map, List.mem_map, Function.comp_apply] at hd hd'
    obtain ⟨a, _, rfl⟩ := hd
    obtain ⟨b, _, rfl⟩ := hd'
    simp [tileOrd, tileD, PySem.W.alike, PySem.W.alikeAll]
  · simp only [List.map_map, List.mem_map, Function.comp_apply] at hd
    obtain ⟨a, _, rfl⟩ := hd
    exact ⟨_, _, rfl⟩
theorem sum_bump {f f' : Str → Nat} {k0 : Str} {c : Nat} (h : ∀ k, k ≠ k0 → f' k = f k) (h0 : f' k0 ≤ f k0 + c) : ∀ {l : List Str}, l.Nodup → (l.map f').sum ≤ (l.map f).sum + c
  | [], _ => by simp
  | a :: l, nd => by
    obtain ⟨n1, n2⟩ := List.nodup_cons.mp nd
    have ih := sum_bump h h0 n2
    simp only [List.map_cons, List.sum_cons]
    by_cases e : a = k0
    · subst e
      have : l.map f' = l.map f := List.map_congr_left fun x hx => h x fun z => n1 (z ▸ hx)
      rw [this]
      omega
    · rw [h a e]
      omega
theorem sum_tiles : ∀ {ts : List Tel}, (∀ t ∈ ts, okTel t) → ((keysOf ts).map fun k => (tilesK ts k).length).sum ≤ ts.length * (ts.length + 1) := fun {ts} => snoc_ind (p := fun ts => (∀ t ∈ ts, okTel t) → ((keysOf ts).map fun k => (tilesK ts k).length).sum ≤ ts.length * (ts.length + 1)) (fun _ => by simp [keysOf]) (fun ts t ih h => by
  have h0 : ∀ q ∈ ts, okTel q := fun q hq => h q (by simp [hq])
  have i := ih h0
  have hl : (ts ++ [t]).length = ts.length + 1 := by simp
  have e : (ts.length + 1) * (ts.length + 1 + 1) = ts.length * (ts.length + 1) + 2 * (ts.length + 1) := by
    rw [Nat.add_mul, Nat.mul_add, Nat.mul_add, Nat.mul_add]
    omega
  have h1 := lineOf_len (k := t.key) h
  rw [hl] at h1
  have h2 := List.length_filter_le (fun r => decide (r ∉ lineOf ts t.key)) (lineOf (ts ++ [t]) t.key)
  have bump : (tilesK (ts ++ [t]) t.key).length ≤ (tilesK ts t.key).length + 2 * (ts.length + 1) := by
    rw [tilesK_snoc, if_pos rfl]
    unfold tilesStep
    rw [List.length_append, List.length_map, List.length_map]
    omega
  have other : ∀ k, k ≠ t.key → (tilesK (ts ++ [t]) k).length = (tilesK ts k).length := fun k hk => by rw [tilesK_snoc, if_neg (Ne.symm hk)]
  rw [hl, keysOf_snoc]
  have hs := sum_bump (f := fun k => (tilesK ts k).length) (f' := fun k => (tilesK (ts ++ [t]) k).length) other bump (l := addK (keysOf ts) t.key) (addK_nodup (keysOf_nodup ts))
  have hk : ((addK (keysOf ts) t.key).map fun k => (tilesK ts k).length).sum = ((keysOf ts).map fun k => (tilesK ts k).length).sum := by
    by_cases c : t.key ∈ keysOf ts
    · rw [addK_in c]
    · rw [addK_out c, List.map_append, List.sum_append]
      simp [tiles_none c]
  omega) ts
theorem all_len {ts : List Tel} {lo : Nat} : ∀ (ks : List Str), (allTiles ts lo ks).length ≤ (ks.map fun k => (tilesK ts k).length).sum
  | [] => by simp [allTiles]
  | k :: ks => by
    have ih := all_len (ts := ts) (lo := lo) ks
    have h1 := forget_len lo (tilesK ts k)
    unfold allTiles at ih ⊢
    simp only [List.map_cons, List.flatten_cons, List.length_append, List.sum_cons]
    omega
theorem all_pre {ts : List Tel} {lo : Nat} (pre post : List Str) : (allTiles ts lo (pre ++ post)) = allTiles ts lo pre ++ allTiles ts lo post := by
  unfold allTiles
  rw [List.map_append, List.flatten_append]
theorem all_small {ts : List Tel} (h : ∀ t ∈ ts, okTel t) (hz : ts.length ≤ 900) (lo : Nat) : (allTiles ts lo (keysOf ts)).length ≤ 900000 := by
  have h1 := all_len (ts := ts) (lo := lo) (keysOf ts)
  have h2 := sum_tiles h
  have h3 : ts.length * (ts.length + 1) ≤ 900 * 901 := Nat.mul_le_mul hz (by omega)
  omega
theorem tilesOf_len (ts : List Tel) (lo : Nat) : (tilesOf ts lo).length = (allTiles ts lo (keysOf ts)).length := List.length_mergeSort _
theorem tile_bel (n : Nat) (t : Tile) : (tileD t).bel n = true := by
  obtain ⟨k, w, b, e, s, u⟩ := t
  cases u <;> cases e <;> simp [tileD, D.bel, D.bels, oD, oN]
theorem tile_lay (n : Nat) (t : Tile) : (tileD t).lay (n + 1) = true := by
  obtain ⟨k, w, b, e, s, u⟩ := t
  cases u <;> cases e <;> simp [tileD, D.lay, D.lays, oD, oN]
def M_Sheet_tiles : FC := fun ds W P _ => ∃ C n fp ts lo, ds = [.hnd n] ∧ Sh C W fp n ts ts lo ∧ P (.lst ((tilesOf ts lo).map tileD)) W
end Tw

set_option Elab.async false
set_option linter.all false
set_option maxRecDepth 100000
set_option maxHeartbeats 4000000
namespace Tw
open PySem PySem.Spec PyProof.Rows L2
/-! ### isinstance of an instance, of an own class -/
def isOf (l : List Str) (c : Str) : Bool := decide (c ∈ l)
def bIsO (Cs : List Str) (y : Str) (f : Str → Bool) (ds : List D) : M D := fun S P _ => match ds with
  | [.hnd n, .gb z] => z = y ∧ ∃ C fs, S.W[n]? = some (.ins C fs) ∧ C ∈ Cs ∧ P (.bl (f C)) S
  | _ => False
section
variable {X : Cx} {WE : WX}
theorem ca_isO {Cs : List Str} {y : Str} {f : Str → Bool} (hk : ∀ C ∈ Cs, (Cls X.K (He.ga X.K C) ∧ IsoC X.K (He.ga X.K C)) ∧ PySem.W.kitOne X.K (.ref (He.ga X.K C)) (.ref (He.ga X.K y)) = some (f C)) : CallA X.K WE (rIsi X.K) (bIsO Cs y f) := by
  intro B φ S σ H ds vs Q R r q
  obtain ⟨P, Xx, h1, h2, h3⟩ := q
  unfold bIsO at h1
  split at h1
  · rename_i n z
    obtain ⟨rfl, C, fs, hw, hC, h1⟩ := h1
    obtain ⟨v, u, rfl, r1, r2⟩ := two_inv r
    simp only [Rep] at r1 r2
    subst r2
    obtain ⟨a, ha, rfl⟩ := r1
    obtain ⟨a', ha', dx, fvs, hx, _⟩ := R.w.get hw
    rw [ha] at ha'; cases ha'
    obtain ⟨⟨cl, c1, c2, c3, c4⟩, e⟩ := hk C hC
    exact ⟨.ref a, .ref (He.ga X.K z), .ref (He.ga X.K C), .ref (He.ga X.K z), f C, rfl, .own _, .base (.ins hx cl c1 c2 c3 c4), e, Run.fin h2 h1 R (by simp only [Rep])⟩
  · exact h1.elim
end
end Tw

set_option Elab.async false
set_option linter.all false
set_option maxRecDepth 100000
set_option maxHeartbeats 4000000
namespace Tw
open PySem PySem.Spec PyProof.Rows L2
/-! ### stories: a worth through knowings -/
abbrev Stp := Nat × Option Str
abbrev SRow := Nat × Option Nat × Str
def rowS (s : Nat) (e : Option Nat) : Option Str → List SRow
  | none => []
  | some x => [(s, e, x)]
/-- the rows of steps, each until the next one, the last one until e -/
def clR : List Stp → Option Nat → List SRow
  | [], _ => []
  | [a], e => rowS a.1 e a.2
  | a :: b :: r, e => rowS a.1 (some b.1) a.2 ++ clR (b :: r) e
theorem clR_snoc : ∀ (l : List Stp) (a : Stp) (e : Option Nat), clR (l ++ [a]) e = clR l (some a.1) ++ rowS a.1 e a.2
  | [], a, e => by simp [clR]
  | [b], a, e => by simp [clR]
  | b :: c :: r, a, e => by
    have := clR_snoc (c :: r) a e
    simp only [List.cons_append] at this ⊢
    simp only [clR, this, List.append_assoc]
def addStp (l : List Stp) (k : Nat) (w : Option Str) : List Stp := match l.getLast? with
  | some a => if a.2 = w then l else l ++ [(k, w)]
  | none => l ++ [(k, w)]
/-- the steps of a worth from knowing lo on, through n knowings -/
def stepsOf (v : Nat → Option Str) (lo : Nat) : Nat → List Stp
  | 0 => []
  | n + 1 => addStp (stepsOf v lo n) (lo + n) (v (lo + n))
theorem addStp_last {l : List Stp} {k : Nat} {w : Option Str} : ∃ S s, addStp l k w = S ++ [(s, w)] := by
  unfold addStp
  split
  · rename_i a e
    split
    · rename_i h
      obtain ⟨S, rfl⟩ := List.getLast?_eq_some_iff.mp e
      exact ⟨S, a.1, by rw [← h]⟩
    · exact ⟨l, k, rfl⟩
  · exact ⟨l, k, rfl⟩
theorem addStp_same {S : List Stp} {s k : Nat} {w : Option Str} : addStp (S ++ [(s, w)]) k w = S ++ [(s, w)] := by
  unfold addStp
  simp
theorem addStp_new {S : List Stp} {s k : Nat} {v w : Option Str} (h : v ≠ w) : addStp (S ++ [(s, v)]) k w = S ++ [(s, v)] ++ [(k, w)] := by
  unfold addStp
  simp [h]
theorem addStp_len (l : List Stp) (k : Nat) (w : Option Str) : (addStp l k w).length ≤ l.length + 1 := by
  unfold addStp
  split
  · split <;> simp
  · simp
theorem stepsOf_len (v : Nat → Option Str) (lo : Nat) : ∀ n, (stepsOf v lo n).length ≤ n
  | 0 => Nat.le_refl _
  | n + 1 => Nat.le_trans (addStp_len _ _ _) (by have := stepsOf_len v lo n; omega)
theorem rowS_len (s : Nat) (e : Option Nat) (w : Option Str) : (rowS s e w).length ≤ 1 := by cases w <;> simp [rowS]
theorem clR_len : ∀ (l : List Stp) (e : Option Nat), (clR l e).length ≤ l.length
  | [], _ => by simp [clR]
  | [a], e => by simpa [clR] using rowS_len _ _ _
  | a :: b :: r, e => by
    have h1 := clR_len (b :: r) e
    have h2 := rowS_len a.1 (some b.1) a.2
    simp only [clR, List.length_append, List.length_cons] at h1 ⊢
    omega

def srD (r : SRow) : D := .tup [.int r.1, oN r.2.1, .str r.2.2]
def stpD (a : Stp) : D := .tup [.int a.1, oS a.2]
def worthK (ts : List Tel) (key : Str) (m : Int) : Nat → Option Str := fun k => told (ts.take k) key m
def storyR (ts : List Tel) (lo : Nat) (key : Str) (m : Int) : List SRow := clR (stepsOf (worthK ts key m) lo (ts.length + 1 - lo)) none
theorem storyR_len (ts : List Tel) (lo : Nat) (key : Str) (m : Int) : (storyR ts lo key m).length ≤ ts.length + 1 := Nat.le_trans (clR_len _ _) (Nat.le_trans (stepsOf_len _ _ _) (by omega))
theorem sr_lay (n : Nat) (r : SRow) : (srD r).lay (n + 2) = true := by
  obtain ⟨s, e, x⟩ := r
  cases e <;> simp [srD, oN, D.lay, D.lays]
theorem sr_lays (n : Nat) (l : List SRow) : (D.lst (l.map srD)).lay (n + 3) = true := by
  rw [D.lay]
  exact lays_of fun r _ => sr_lay n r
theorem sr_bel (n : Nat) (r : SRow) : (srD r).bel n = true := by
  obtain ⟨s, e, x⟩ := r
  cases e <;> simp [srD, oN, D.bel, D.bels]
theorem stp_lay (n : Nat) (a : Stp) : (stpD a).lay (n + 2) = true := by
  obtain ⟨s, w⟩ := a
  cases w <;> simp [stpD, oS, D.lay, D.lays]
theorem eqs_snoc_nil (l : List D) (a : D) : D.eqs (l ++ [a]) [] = false := by cases l <;> rfl
theorem enumD_zip {α : Type} {f : α → D} : ∀ {l : List α} {n : Nat}, enumD n (l.map f) = (l.zipIdx n).map fun p => D.tup [.int (p.2 : Nat), f p.1]
  | [], _ => rfl
  | a :: l, n => by rw [List.map_cons, enumD, List.zipIdx_cons, List.map_cons, enumD_zip]
theorem zip_at {α : Type} {l : List α} {pre post : List (α × Nat)} {a : α} {i : Nat} (h : l.zipIdx = pre ++ (a, i) :: post) : i = pre.length ∧ l[pre.length]? = some a := by
  have h1 : l.zipIdx[pre.length]? = some (a, i) := by rw [h, List.getElem?_append_right (Nat.le_refl _)]; simp
  rw [List.getElem?_zipIdx] at h1
  cases e : l[pre.length]? with
  | none => rw [e] at h1; cases h1
  | some b =>
    rw [e] at h1
    simp at h1
    exact ⟨h1.2.symm, by rw [h1.1]⟩
theorem DoneX.grow {W g : Wd} {X : Exn → Wd → Prop} {x : Exn} (hb : x.bel W.length = true) (h : X x W) : DoneX W X x (W ++ g) := .inr ⟨W, g, rfl, rfl, Cl.refl _, hb, h⟩
theorem own21 (W : Wd) (a b : O) : (W ++ [a] ++ [b])[W.length]? = some a := by rw [List.append_assoc, List.singleton_append, Tw.get_own]
theorem own22 (W : Wd) (a b : O) : (W ++ [a] ++ [b])[W.length + 1]? = some b := by
  have := Tw.get_own (W ++ [a]) [] b
  simpa using this
theorem own22s (W : Wd) (a b c : O) : (W ++ [a] ++ [b]).set (W.length + 1) c = W ++ [a] ++ [c] := by
  have := Tw.set_own (W ++ [a]) [] b c
  simpa using this
theorem own21s (W : Wd) (a b c : O) : (W ++ [a] ++ [b]).set W.length c = W ++ [c] ++ [b] := by
  rw [List.append_assoc, List.singleton_append, Tw.set_own]
  simp
theorem isMo_ex {d : D} (h : isMo d = true) : ∃ m, d = .int m := by cases d <;> first | exact ⟨_, rfl⟩ | cases h
end Tw

set_option Elab.async false
set_option linter.all false
set_option maxRecDepth 100000
set_option maxHeartbeats 4000000
namespace Tw
open PySem PySem.Spec PyProof.Rows L2
/-! ### sorted texts, asking sheets -/
def strKy : D → PyData
  | .str s => .str s
  | _ => .none
theorem sortA_strs {h : Bool} {d : D} {ks : List Str} {S : AS} {P : D → AS → Prop} {X : XA} (hd : rdL S.W d = some (ks.map D.str)) (q : newL h ((srtS ks).map D.str) S P X) : bSortA h [d] S P X := by
  refine ⟨ks.map D.str, strKy, hd, fun x hx => ?_, fun d hd d' hd' => ?_, .inr fun d hd => ?_, ?_⟩
  · obtain ⟨a, _, rfl⟩ := List.mem_map.mp hx
    exact ⟨rfl, by simp [strKy, PyData.depth]⟩
  · simp only [List.map_map, List.mem_map, Function.comp_apply] at hd hd'
    obtain ⟨a, _, rfl⟩ := hd
    obtain ⟨b, _, rfl⟩ := hd'
    simp [strKy, PySem.W.alike]
  · simp only [List.map_map, List.mem_map, Function.comp_apply] at hd
    obtain ⟨a, _, rfl⟩ := hd
    simp [strKy]
  · rw [sort_map (le := sLe) fun a _ b _ => (data_str (k := fun a : Str => strKy (.str a)) (a := a) (b := b) rfl rfl).symm]
    exact q
theorem keys_pick {ts : List Tel} {ks : List Str} {k : Nat} (nd : ks.Nodup) (h : ∀ t ∈ ts, t.key ∈ ks) : (srtS ks).filter (fun key => decide (lineOf (ts.take k) key ≠ [])) = keysAt ts k := by
  unfold keysAt
  refine srt_ext ((srtS_sorted _).filter _) ((srtS_sorted _).filter _) (((srtS_perm _).nodup_iff.mpr nd).filter _) (((srtS_perm _).nodup_iff.mpr (keysOf_nodup ts)).filter _) fun a => ?_
  simp only [List.mem_filter, srtS_mem, decide_eq_true_eq]
  constructor
  · rintro ⟨h1, h2⟩
    refine ⟨Classical.byContradiction fun hn => h2 (lineOf_other fun hk => hn ?_), h2⟩
    obtain ⟨t, ht, rfl⟩ := keysOf_mem.mp hk
    exact keysOf_mem.mpr ⟨t, List.mem_of_mem_take ht, rfl⟩
  · rintro ⟨h1, h2⟩
    obtain ⟨t, ht, rfl⟩ := keysOf_mem.mp h1
    exact ⟨h t ht, h2⟩
theorem keysAt_len (ts : List Tel) (k : Nat) : (keysAt ts k).length ≤ ts.length := Nat.le_trans (List.length_filter_le _ _) (by rw [srtS_len]; exact keysOf_len ts)
theorem lineAt_len {C : Str} {W : Wd} {fp : List Nat} {n lo : Nat} {td ts : List Tel} (sh : Sh C W fp n td ts lo) (k : Nat) (key : Str) : (lineOf (ts.take k) key).length ≤ 1800 := by
  have hz := sh.zts
  have hl1 : (lineOf (ts.take k) key).length ≤ 2 * (ts.take k).length := lineOf_len fun t ht => sh.okts t (List.mem_of_mem_take ht)
  have hl2 : (ts.take k).length ≤ 900 := by simp; omega
  omega
theorem lineAt_good {C : Str} {W : Wd} {fp : List Nat} {n lo : Nat} {td ts : List Tel} (sh : Sh C W fp n td ts lo) (k : Nat) (key : Str) : Good (lineOf (ts.take k) key) := lineOf_good fun t ht => sh.okts t (List.mem_of_mem_take ht)
theorem lineAt_told {C : Str} {W : Wd} {fp : List Nat} {n lo : Nat} {td ts : List Tel} (sh : Sh C W fp n td ts lo) (k : Nat) (key : Str) (m : Int) : wAt (lineOf (ts.take k) key) m = told (ts.take k) key m := lineOf_wAt fun t ht => sh.okts t (List.mem_of_mem_take ht)
theorem Sh.ask_line {C : Str} {W : Wd} {fp : List Nat} {n lo k : Nat} {ts : List Tel} {key : Str} {P : D → Wd → Prop} {X : Exn → Wd → Prop} (sh : Sh C W fp n ts ts lo) (hk : isNameS key = true) (h0 : lo ≤ k) (h1 : k ≤ ts.length) (q : lstR P W ((lineOf (ts.take k) key).map rowD)) : M_Sheet_line_at [.hnd n, .str key, .int (k : Nat)] W P X := by
  refine ⟨C, n, fp, ts, lo, .str key, (k : Nat), rfl, plain_name hk, sh, knAsk_ok (by omega) (by omega) (by omega) ?_⟩
  rw [if_pos (show isNm (.str key) = true from hk)]
  rintro key' e1
  cases e1
  exact q
theorem Sh.ask_keys {C : Str} {W : Wd} {fp : List Nat} {n lo k : Nat} {ts : List Tel} {P : D → Wd → Prop} {X : Exn → Wd → Prop} (sh : Sh C W fp n ts ts lo) (h0 : lo ≤ k) (h1 : k ≤ ts.length) (q : lstR P W ((keysAt ts k).map D.str)) : M_Sheet_keys_at [.hnd n, .int (k : Nat)] W P X :=
  ⟨C, n, fp, ts, lo, (k : Nat), rfl, sh, knAsk_ok (by omega) (by omega) (by omega) q⟩
theorem Sh.ask_worth {C : Str} {W : Wd} {fp : List Nat} {n lo k : Nat} {ts : List Tel} {key : Str} {m : Int} {P : D → Wd → Prop} {X : Exn → Wd → Prop} (sh : Sh C W fp n ts ts lo) (hk : isNameS key = true) (m0 : 0 ≤ m) (m1 : m ≤ 1000000000000) (h0 : lo ≤ k) (h1 : k ≤ ts.length) (q : P (oS (told (ts.take k) key m)) W) : M_Sheet_worth_at [.hnd n, .str key, .int m, .int (k : Nat)] W P X := by
  refine ⟨C, n, fp, ts, lo, .str key, .int m, (k : Nat), rfl, plain_name hk, rfl, sh, knAsk_ok (by omega) (by omega) (by omega) ?_⟩
  rw [if_pos (show isNm (D.str key) = true from hk), if_pos (by simp only [isMo, Bool.and_eq_true, decide_eq_true_eq]; omega)]
  intro key' m' q1 q2
  cases q1; cases q2
  exact q
end Tw

set_option Elab.async false
set_option linter.all false
set_option maxRecDepth 100000
set_option maxHeartbeats 4000000
namespace Tw
open PySem PySem.Spec PyProof.Rows L2
/-! ### the rows of one worth -/
def pickL (t : Tl) (l : List LRow) : List LRow := l.filter fun r => decide (r.2.2 = t)
theorem Can.pick {t : Tl} : ∀ {l : List LRow} {lo : Int} {t0 t1 : Option Tl}, Can lo t0 l → (t1 = some t → t0 = some t) → Can lo t1 (pickL t l)
  | [], _, _, _, _, _ => trivial
  | (b, none, u) :: l, lo, t0, t1, h, q => by
    have e : l = [] := h.2.2
    subst e
    unfold pickL
    by_cases c : u = t
    · subst c
      rw [List.filter_cons_of_pos (by simp)]
      exact ⟨h.1, fun z y => h.2.1 z (q y), rfl⟩
    · rw [List.filter_cons_of_neg (by simpa using c)]
      trivial
  | (b, some e, u) :: l, lo, t0, t1, h, q => by
    obtain ⟨h1, h3, h2, h4⟩ := h
    by_cases c : u = t
    · subst c
      have ih := Can.pick (t := u) (t1 := some u) h4 (fun z => z)
      unfold pickL at ih ⊢
      rw [List.filter_cons_of_pos (by simp)]
      exact ⟨h1, fun z y => h3 z (q y), h2, ih⟩
    · have ih := Can.pick (t := t) (t1 := none) h4 (fun z => by cases z)
      unfold pickL at ih ⊢
      rw [List.filter_cons_of_neg (by simpa using c)]
      exact ih.weak (by omega)
theorem pick_at {t : Tl} : ∀ {l : List LRow} {lo m : Int}, Prp lo l → atL (pickL t l) m = if atL l m = some t then some t else none
  | [], _, _, _ => by simp [pickL, atL]
  | (b, none, u) :: l, lo, m, h => by
    have e : l = [] := h.2
    subst e
    unfold pickL
    by_cases c : u = t
    · subst c
      rw [List.filter_cons_of_pos (by simp)]
      simp only [List.filter_nil, atL, rst, inSt_none]
      by_cases z : b ≤ m <;> simp [z]
    · rw [List.filter_cons_of_neg (by simpa using c), atL_none]
      simp only [List.filter_nil, atL]
      split <;> simp [c]
  | (b, some e, u) :: l, lo, m, h => by
    obtain ⟨h1, h2, h4⟩ := h
    have ih := pick_at (t := t) (m := m) h4
    have hlo : m < e → atL l m = none := atL_lo h4
    unfold pickL at ih ⊢
    rw [atL_some]
    by_cases c : u = t
    · subst c
      rw [List.filter_cons_of_pos (by simp), atL_some]
      split
      · simp
      · exact ih
    · rw [List.filter_cons_of_neg (by simpa using c), ih]
      by_cases z : b ≤ m ∧ m < e
      · rw [if_pos z, hlo z.2]
        simp [c]
      · rw [if_neg z]
def onlyF (w : Str) (g : Int → Option Str) (m : Int) : Option Tl := if g m = some w then some [some w] else none
abbrev wOnly (w : Str) (l : List LRow) : Int → Option Tl := onlyF w (wAt l)
def seD (r : LRow) : D := .tup [.int r.1, oD r.2.1]
theorem wOnly_eq {l : List LRow} (h : Fil l) (w : Str) : wOnly w l = fun m => (fun o => if o = some [some w] then o else none) (atL l m) := by
  funext m
  unfold wOnly onlyF
  rw [h.at m]
  cases wAt l m with
  | none => simp [tl]
  | some v =>
    by_cases c : v = w
    · subst c; simp [tl]
    · simp [tl, c]
theorem pick_line {l : List LRow} {ps : List Int} (g : Good l) (hp : ps.Pairwise (· < ·)) (h0 : ∀ x ∈ ps, 0 ≤ x) (hb : ∀ r ∈ l, r.1 ∈ ps ∧ ∀ e, r.2.1 = some e → e ∈ ps) (w : Str) : pickL [some w] l = lineL (wOnly w l) ps := by
  refine (g.can.pick (t := [some w]) (t1 := none) (fun z => by cases z)).uniq (lineL_can hp h0) fun m => ?_
  have st : Steps ps (wOnly w l) := by
    rw [wOnly_eq g.fil w]
    exact steps_of (g := fun o => if o = some [some w] then o else none) (by simp) hb
  rw [pick_at g.prp, lineL_at hp h0 st, wOnly_eq g.fil w]
  simp only
  split
  · rename_i z; rw [z]
  · rfl
theorem segs_len' (f : Int → Option Tl) (x : Int) (l : List Int) : segs f (x :: l) = (match f x with
    | some t => [(x, l.head?, t)]
    | none => []) ++ segs f l := rfl
theorem joinStep_all {Q : LRow → Prop} {found : List LRow} {r : LRow} (h : ∀ q ∈ found, Q q) (hr : Q r) (hm : ∀ c ∈ found, Q (c.1, r.2)) : ∀ q ∈ joinStep found r, Q q := by
  rcases snoc_cases found with rfl | ⟨p, c, rfl⟩
  · intro q hq
    simp [joinStep] at hq
    exact hq ▸ hr
  · rw [joinStep_snoc]
    intro q hq
    split at hq
    · rcases List.mem_append.mp hq with z | z
      · exact h q (by simp [z])
      · simp at z
        exact z ▸ hm c (by simp)
    · simp only [List.mem_append, List.mem_cons, List.not_mem_nil, or_false] at hq
      rcases hq with z | z | z
      · exact h q (by simp [z])
      · exact h q (by simp [z])
      · exact z ▸ hr
theorem se_bel (n : Nat) (r : LRow) : (seD r).bel n = true := by simp [seD, D.bel, D.bels, oD_bel]
theorem se_lay (n : Nat) (r : LRow) : (seD r).lay (n + 1) = true := by simp [seD, D.lay, D.lays, lay_oD]
/-! ### the bounds of lines -/
def Bnd (Q : Int → Prop) (l : List LRow) : Prop := ∀ r ∈ l, Q r.1 ∧ ∀ e, r.2.1 = some e → Q e
theorem Bnd.app {Q : Int → Prop} {l m : List LRow} (h : Bnd Q l) (g : Bnd Q m) : Bnd Q (l ++ m) := fun r hr => by
  rcases List.mem_append.mp hr with q | q
  · exact h r q
  · exact g r q
theorem Bnd.cut {Q : Int → Prop} {l : List LRow} {b : Int} {e : Option Int} (h : Bnd Q l) (hb : Q b ∨ ∀ r ∈ l, b ≤ r.1) (he : ∀ x, e = some x → Q x) : Bnd Q (cutL l b e) := by
  intro r hr
  unfold cutL at hr
  obtain ⟨q, hq, e1⟩ := List.mem_filterMap.mp hr
  unfold cutRow at e1
  rw [Option.map_eq_some_iff] at e1
  obtain ⟨s, hs, rfl⟩ := e1
  obtain ⟨s1, s2, _⟩ := common_some hs
  obtain ⟨q1, q2⟩ := h q hq
  simp only at s1 s2 ⊢
  refine ⟨?_, fun x hx => ?_⟩
  · rw [s1]
    simp only [rst]
    rcases hb with z | z
    · rcases (by omega : max q.1 b = q.1 ∨ max q.1 b = b) with y | y <;> rw [y] <;> assumption
    · rw [show max q.1 b = q.1 by have := z q hq; omega]
      exact q1
  · rw [s2] at hx
    simp only [rst] at hx
    unfold earlierEnd at hx
    cases h1 : q.2.1 with
    | none => cases e with
      | none => simp [h1] at hx
      | some y => simp [h1] at hx; exact hx ▸ he y rfl
    | some z => cases e with
      | none => simp [h1] at hx; exact hx ▸ q2 z h1
      | some y =>
        simp [h1] at hx
        rcases (by omega : x = z ∨ x = y) with c | c
        · exact c ▸ q2 z h1
        · exact c ▸ he y rfl
theorem Bnd.join {Q : Int → Prop} {l : List LRow} (h : Bnd Q l) : Bnd Q (joinL l) := fun r hr => by
  obtain ⟨⟨q, hq, e1, _⟩, p, hp, e2⟩ := joinL_mem hr
  exact ⟨e1 ▸ (h q hq).1, fun e z => (h p hp).2 e (e2 ▸ z)⟩
theorem Bnd.put {Q : Int → Prop} {l : List LRow} {b : Int} {e : Option Int} {w : Option Tl} (h : Bnd Q l) (hp : Prp 0 l) (hb : Q b) (he : ∀ x, e = some x → Q x) : Bnd Q (putL l b e w) := by
  refine Bnd.join (Bnd.app (Bnd.app ?_ ?_) ?_)
  · unfold headCut
    split
    · exact h.cut (.inr fun r hr => (hp.begins hr).1) (fun x z => by cases z; exact hb)
    · intro r hr; cases hr
  · intro r hr
    cases w with
    | none => simp [oneRow] at hr
    | some t =>
      simp [oneRow] at hr
      subst hr
      exact ⟨hb, he⟩
  · cases e with
    | none => intro r hr; simp [tailCut] at hr
    | some x => exact h.cut (.inl (he x rfl)) (fun y z => by cases z)
def isBnd (ts : List Tel) (k : Str) (x : Int) : Prop := ∃ t ∈ ts, t.key = k ∧ (x = t.b ∨ t.e = some x)
theorem Bnd.imp {Q R : Int → Prop} {l : List LRow} (h : Bnd Q l) (f : ∀ x, Q x → R x) : Bnd R l := fun r hr => ⟨f _ (h r hr).1, fun e z => f _ ((h r hr).2 e z)⟩
theorem lineOf_bnd {k : Str} : ∀ {ts : List Tel}, (∀ t ∈ ts, okTel t) → Bnd (isBnd ts k) (lineOf ts k) := fun {ts} => snoc_ind (p := fun ts => (∀ t ∈ ts, okTel t) → Bnd (isBnd ts k) (lineOf ts k)) (fun _ r hr => by simp [lineOf] at hr) (fun ts t ih h => by
  have h0 : ∀ q ∈ ts, okTel q := fun q hq => h q (by simp [hq])
  have up : ∀ x, isBnd ts k x → isBnd (ts ++ [t]) k x := fun x ⟨q, hq, e⟩ => ⟨q, by simp [hq], e⟩
  rw [lineOf_snoc]
  split
  · rename_i c
    exact Bnd.put ((ih h0).imp up) (lineOf_good h0).prp ⟨t, by simp, c, .inl rfl⟩ (fun x z => ⟨t, by simp, c, .inr z⟩)
  · exact (ih h0).imp up) ts
/-! ### all, when, who -/
def allR (ts : List Tel) (k : Nat) (m : Int) : List (Str × Str) := (keysAt ts k).filterMap fun key => (told (ts.take k) key m).map fun w => (key, w)
def awD (p : Str × Str) : D := .tup [.str p.1, .str p.2]
def whenR (ts : List Tel) (k : Nat) (key w : Str) : List LRow := pickL [some w] (lineOf (ts.take k) key)
def whoR (ts : List Tel) (k : Nat) (w : Str) : List (Str × LRow) := ((keysAt ts k).map fun key => (whenR ts k key w).map fun r => (key, r)).flatten
def whD (p : Str × LRow) : D := .tup [.str p.1, .int p.2.1, oD p.2.2.1]
theorem aw_bel (n : Nat) (p : Str × Str) : (awD p).bel n = true := by simp [awD, D.bel, D.bels]
theorem aw_lay (n : Nat) (p : Str × Str) : (awD p).lay (n + 2) = true := by simp [awD, D.lay, D.lays]
theorem wh_bel (n : Nat) (p : Str × LRow) : (whD p).bel n = true := by simp [whD, D.bel, D.bels, oD_bel]
theorem wh_lay (n : Nat) (p : Str × LRow) : (whD p).lay (n + 2) = true := by simp [whD, D.lay, D.lays, lay_oD]
theorem allR_len (ts : List Tel) (k : Nat) (m : Int) : (allR ts k m).length ≤ ts.length := Nat.le_trans (List.length_filterMap_le _ _) (keysAt_len ts k)
theorem pick_len (t : Tl) (l : List LRow) : (pickL t l).length ≤ l.length := List.length_filter_le _ _
theorem keysAt_name {C : Str} {W : Wd} {fp : List Nat} {n lo k : Nat} {td ts : List Tel} {key : Str} (sh : Sh C W fp n td ts lo) (h : key ∈ keysAt ts k) : isNameS key = true := by
  unfold keysAt at h
  obtain ⟨t, ht, rfl⟩ := keysOf_mem.mp (srtS_mem.mp (List.mem_filter.mp h).1)
  exact (sh.okts t ht).key
theorem lines_sum {ks : List Str} (nd : ks.Nodup) : ∀ {ts : List Tel}, (∀ t ∈ ts, okTel t) → (ks.map fun k => (lineOf ts k).length).sum ≤ 2 * ts.length := fun {ts} => snoc_ind (p := fun ts => (∀ t ∈ ts, okTel t) → (ks.map fun k => (lineOf ts k).length).sum ≤ 2 * ts.length) (fun _ => by
    have : (ks.map fun k => (lineOf [] k).length) = ks.map fun _ => 0 := List.map_congr_left fun _ _ => rfl
    rw [this]
    clear this nd
    induction ks with
    | nil => simp
    | cons a l ih => simpa using ih) (fun ts t ih h => by
  have h0 : ∀ q ∈ ts, okTel q := fun q hq => h q (by simp [hq])
  have st := (h t (by simp)).st
  have := sum_bump (f := fun k => (lineOf ts k).length) (f' := fun k => (lineOf (ts ++ [t]) k).length) (k0 := t.key) (c := 2) (fun k hk => by simp only [lineOf_snoc]; rw [if_neg (Ne.symm hk)]) (by
    simp only [lineOf_snoc, if_true]
    exact putL_len2 (lineOf_good h0).prp st) nd
  have := ih h0
  simp only [List.length_append, List.length_singleton]
  omega) ts
theorem keysAt_nodup (ts : List Tel) (k : Nat) : (keysAt ts k).Nodup := ((srtS_perm _).nodup_iff.mpr (keysOf_nodup ts)).filter _
theorem flat_len {f : Str → List (Str × LRow)} {g : Str → Nat} : ∀ {l : List Str}, (∀ k ∈ l, (f k).length ≤ g k) → (l.map f).flatten.length ≤ (l.map g).sum
  | [], _ => by simp
  | a :: l, h => by
    have h1 := h a (by simp)
    have h2 := flat_len (l := l) (f := f) (g := g) (fun k hk => h k (List.mem_cons_of_mem _ hk))
    simp only [List.map_cons, List.sum_cons, List.flatten_cons, List.length_append]
    omega
theorem who_part {ts : List Tel} {k : Nat} (h : ∀ t ∈ ts, okTel t) (hk : k ≤ ts.length) (w : Str) {ks : List Str} (nd : ks.Nodup) : ((ks.map fun key => (whenR ts k key w).map fun r => (key, r)).flatten).length ≤ 2 * ts.length := by
  refine Nat.le_trans (flat_len (g := fun key => (lineOf (ts.take k) key).length) fun key _ => by rw [List.length_map]; exact pick_len _ _) (Nat.le_trans (lines_sum nd fun t ht => h t (List.mem_of_mem_take ht)) ?_)
  simp
  omega
end Tw

set_option Elab.async false
set_option linter.all false
set_option maxRecDepth 100000
set_option maxHeartbeats 4000000
namespace Tw
open PySem PySem.Spec PyProof.Rows L2
/-! ### tiles part the plane -/
theorem tiles_gone (k : Str) : ∀ {ts : List Tel}, (∀ t ∈ ts, okTel t) → ∀ q ∈ tilesK ts k, ∀ u, q.u = some u → q.run ∉ lineOf (ts.take u) k := fun {ts} => snoc_ind (p := fun ts => (∀ t ∈ ts, okTel t) → ∀ q ∈ tilesK ts k, ∀ u, q.u = some u → q.run ∉ lineOf (ts.take u) k) (fun _ q hq => by simp [tilesK] at hq) (fun ts t ih h => by
  have h0 : ∀ q ∈ ts, okTel q := fun q hq => h q (by simp [hq])
  have old : ∀ q ∈ tilesK ts k, ∀ u, q.u = some u → q.run ∉ lineOf ((ts ++ [t]).take u) k := fun q hq u hu => by
    have := (((tiles_ok k h0).ok q hq).2.2 u hu).2
    rw [List.take_append_of_le_length this]
    exact ih h0 q hq u hu
  rw [tilesK_snoc]
  split
  · rename_i c
    intro q hq u hu
    unfold tilesStep at hq
    rcases List.mem_append.mp hq with z | z
    · obtain ⟨q0, hq0, rfl⟩ := List.mem_map.mp z
      unfold tileEnd at hu ⊢
      split at hu
      · rename_i y
        rw [if_pos y]
        simp only [Option.some.injEq] at hu
        subst hu
        rw [List.take_of_length_le (by simp)]
        exact y.2
      · rename_i y
        rw [if_neg y]
        exact old q0 hq0 u hu
    · obtain ⟨r, hr, rfl⟩ := List.mem_map.mp z
      cases hu
  · exact old) ts
theorem tile_in {ts : List Tel} {k : Str} (h : ∀ t ∈ ts, okTel t) {q : Tile} (hq : q ∈ tilesK ts k) : q.run ∈ lineOf (ts.take q.s) k := by
  have T := tiles_ok k h
  obtain ⟨t1, t2, t3⟩ := T.ok q hq
  refine (T.line q.s t2).mem_iff.mp (List.mem_map.mpr ⟨q, List.mem_filter.mpr ⟨hq, ?_⟩, rfl⟩)
  exact (stands_iff _ _).mpr ⟨Nat.le_refl _, fun u hu => (t3 u hu).1⟩
def ApartR (a b : LRow) : Prop := (∀ m, inSt (rst a) m = true → inSt (rst b) m = true → False) ∧ (a.2.2 = b.2.2 → a.2.1 ≠ some b.1 ∧ b.2.1 ≠ some a.1)
theorem ApartR.symm {a b : LRow} (h : ApartR a b) : ApartR b a := ⟨fun m h1 h2 => h.1 m h2 h1, fun e => ⟨(h.2 e.symm).2, (h.2 e.symm).1⟩⟩
theorem Can.head_ne : ∀ {l : List LRow} {lo : Int} {t : Tl} {r : LRow}, Can lo (some t) l → r ∈ l → r.1 = lo → r.2.2 ≠ t
  | [], _, _, _, _, hr, _ => by cases hr
  | (b, none, u) :: l, lo, t, r, h, hr, e => by
    have : l = [] := h.2.2
    subst this
    simp at hr
    subst hr
    exact fun z => h.2.1 e (by rw [← z])
  | (b, some e', u) :: l, lo, t, r, h, hr, e => by
    obtain ⟨h1, h2, h3, h4⟩ := h
    rcases List.mem_cons.mp hr with rfl | q
    · exact fun z => h2 e (by rw [← z])
    · have := (h4.lt q).1
      omega
theorem Can.apart : ∀ {l : List LRow} {lo : Int} {t : Option Tl}, Can lo t l → l.Pairwise ApartR
  | [], _, _, _ => List.Pairwise.nil
  | (b, none, u) :: l, lo, t, h => by
    have : l = [] := h.2.2
    subst this
    exact List.pairwise_singleton _ _
  | (b, some e, u) :: l, lo, t, h => by
    obtain ⟨h1, h2, h3, h4⟩ := h
    refine List.pairwise_cons.mpr ⟨fun r hr => ?_, h4.apart⟩
    obtain ⟨l1, l2⟩ := h4.lt hr
    have hd := h4.head_ne hr
    obtain ⟨rb, re, rt⟩ := r
    simp only at l1 l2 hd
    refine ⟨fun m m1 m2 => ?_, fun q => ⟨fun z => ?_, fun z => ?_⟩⟩
    · rw [rst, inSt_some] at m1
      simp only [Bool.and_eq_true, decide_eq_true_eq] at m1
      have : rb ≤ m := by
        cases re with
        | none => rw [rst, inSt_none] at m2; simpa using m2
        | some x => rw [rst, inSt_some] at m2; simp only [Bool.and_eq_true, decide_eq_true_eq] at m2; exact m2.1
      omega
    · simp only [Option.some.injEq] at z
      exact hd z.symm q.symm
    · have := l2 b z
      omega
/-- two tiles of one key are apart -/
def TRel (n : Nat) (a b : Tile) : Prop := a.key = b.key → (∀ kn, kn ≤ n → stands kn a = true → stands kn b = true → ApartR a.run b.run) ∧ (a.run = b.run → a.u ≠ some b.s ∧ b.u ≠ some a.s)
theorem TRel.symm {n : Nat} {a b : Tile} (h : TRel n a b) : TRel n b a := fun e => ⟨fun kn hk h1 h2 => ((h e.symm).1 kn hk h2 h1).symm, fun q => ⟨((h e.symm).2 q.symm).2, ((h e.symm).2 q.symm).1⟩⟩
theorem tilesK_rel {ts : List Tel} {k : Str} (h : ∀ t ∈ ts, okTel t) : (tilesK ts k).Pairwise (TRel ts.length) := by
  have T := tiles_ok k h
  rw [List.pairwise_iff_forall_sublist]
  intro a b hs _
  have ha : a ∈ tilesK ts k := hs.subset (by simp)
  have hb : b ∈ tilesK ts k := hs.subset (by simp)
  refine ⟨fun kn hk h1 h2 => ?_, fun e => ⟨fun z => ?_, fun z => ?_⟩⟩
  · have g : Good (lineOf (ts.take kn) k) := lineOf_good fun t ht => h t (List.mem_of_mem_take ht)
    have p : (((tilesK ts k).filter (stands kn)).map Tile.run).Pairwise ApartR := ((T.line kn hk).pairwise_iff (fun {a b} h => ApartR.symm h)).mpr g.can.apart
    rw [List.pairwise_map, List.pairwise_iff_forall_sublist] at p
    refine p ?_
    have := hs.filter (stands kn)
    rwa [List.filter_cons_of_pos h1, List.filter_cons_of_pos h2, List.filter_nil] at this
  · exact tiles_gone k h a ha _ z (e ▸ tile_in h hb)
  · exact tiles_gone k h b hb _ z (e ▸ tile_in h ha)
theorem allTiles_rel {ts : List Tel} (h : ∀ t ∈ ts, okTel t) : ∀ {ks : List Str}, ks.Nodup → (allTiles ts 0 ks).Pairwise (TRel ts.length)
  | [], _ => List.Pairwise.nil
  | k :: ks, nd => by
    obtain ⟨n1, n2⟩ := List.nodup_cons.mp nd
    unfold allTiles
    rw [List.map_cons, List.flatten_cons, List.pairwise_append]
    refine ⟨by rw [forget0 h]; exact tilesK_rel h, allTiles_rel h n2, fun a ha b hb e => ?_⟩
    have e1 := forget_key h a ha
    obtain ⟨l, hl, hb⟩ := List.mem_flatten.mp hb
    obtain ⟨k2, hk2, rfl⟩ := List.mem_map.mp hl
    have e2 := forget_key h b hb
    exact absurd (e1.symm.trans (e.trans e2)) fun z => n1 (z ▸ hk2)
theorem tilesOf_rel {ts : List Tel} (h : ∀ t ∈ ts, okTel t) : (tilesOf ts 0).Pairwise (TRel ts.length) :=
  ((List.mergeSort_perm _ tLe).pairwise_iff (fun {a b} h => TRel.symm h)).mpr (allTiles_rel h (keysOf_nodup ts))
theorem tilesOf_mem {ts : List Tel} (h : ∀ t ∈ ts, okTel t) {q : Tile} : q ∈ tilesOf ts 0 ↔ ∃ k, q ∈ tilesK ts k := by
  unfold tilesOf
  rw [(List.mergeSort_perm _ tLe).mem_iff]
  unfold allTiles
  constructor
  · intro hq
    obtain ⟨l, hl, hq⟩ := List.mem_flatten.mp hq
    obtain ⟨k, hk, rfl⟩ := List.mem_map.mp hl
    rw [forget0 h] at hq
    exact ⟨k, hq⟩
  · rintro ⟨k, hq⟩
    have hk : k ∈ keysOf ts := Classical.byContradiction fun hn => by
      have e := tile_in h hq
      rw [lineOf_other fun z => hn ?_] at e
      · cases e
      · obtain ⟨t, ht, rfl⟩ := keysOf_mem.mp z
        exact keysOf_mem.mpr ⟨t, List.mem_of_mem_take ht, rfl⟩
    exact List.mem_flatten.mpr ⟨_, List.mem_map.mpr ⟨k, hk, rfl⟩, by rw [forget0 h]; exact hq⟩
/-- a tile of a sheet -/
structure TGood (n : Nat) (q : Tile) : Prop where
  ok : TOk n q
  st : okSt (q.b, q.e)
theorem tilesOf_good {ts : List Tel} (h : ∀ t ∈ ts, okTel t) {q : Tile} (hq : q ∈ tilesOf ts 0) : TGood ts.length q := by
  obtain ⟨k, hq⟩ := (tilesOf_mem h).mp hq
  have g : Good (lineOf (ts.take q.s) k) := lineOf_good fun t ht => h t (List.mem_of_mem_take ht)
  exact ⟨(tiles_ok k h).ok q hq, g.ok _ (tile_in h hq)⟩
def hasT (key : Str) (m : Int) (kn : Nat) (q : Tile) : Bool := decide (q.key = key) && (inSt (q.b, q.e) m && stands kn q)
/-- at a moment and a knowing just one tile of the key, if any -/
theorem tiles_at {ts : List Tel} (h : ∀ t ∈ ts, okTel t) {kn : Nat} (hk : kn ≤ ts.length) (key : Str) (m : Int) : (((tilesOf ts 0).filter (hasT key m kn)).map Tile.w) = (told (ts.take kn) key m).toList := by
  have h' : ∀ t ∈ ts.take kn, okTel t := fun t ht => h t (List.mem_of_mem_take ht)
  have g : Good (lineOf (ts.take kn) key) := lineOf_good h'
  -- the tiles of that key
  have p1 : ((tilesOf ts 0).filter (fun q => decide (q.key = key))).Perm (tilesK ts key) := by
    refine ((List.mergeSort_perm (allTiles ts 0 (keysOf ts)) tLe).filter _).trans ?_
    have part : ∀ {ks : List Str}, ks.Nodup → (allTiles ts 0 ks).filter (fun q => decide (q.key = key)) = if key ∈ ks then tilesK ts key else [] := by
      intro ks
      induction ks with
      | nil => intro _; rfl
      | cons k ks ih =>
        intro nd
        obtain ⟨n1, n2⟩ := List.nodup_cons.mp nd
        have ih := ih n2
        unfold allTiles at ih ⊢
        rw [List.map_cons, List.flatten_cons, List.filter_append, ih, forget0 h]
        by_cases c : k = key
        · subst c
          rw [List.filter_eq_self.mpr fun q hq => by simpa using (tiles_ok k h).key q hq, if_neg n1, if_pos (by simp), List.append_nil]
        · rw [List.filter_eq_nil_iff.mpr fun q hq => by rw [(tiles_ok k h).key q hq]; simpa using c, List.nil_append]
          simp [Ne.symm c]
    rw [part (keysOf_nodup ts)]
    split
    · exact List.Perm.refl _
    · rename_i hn
      have : tilesK ts key = [] := by
        rw [List.eq_nil_iff_forall_not_mem]
        intro q hq
        have e := tile_in h hq
        rw [lineOf_other fun z => hn ?_] at e
        · cases e
        · obtain ⟨t, ht, rfl⟩ := keysOf_mem.mp z
          exact keysOf_mem.mpr ⟨t, List.mem_of_mem_take ht, rfl⟩
      rw [this]
  have p2 : (((tilesOf ts 0).filter (hasT key m kn)).map Tile.run).Perm ((lineOf (ts.take kn) key).filter fun r => inSt (rst r) m) := by
    have e : (tilesOf ts 0).filter (hasT key m kn) = ((((tilesOf ts 0).filter fun q => decide (q.key = key)).filter (stands kn)).filter fun q => inSt (rst q.run) m) := by
      rw [List.filter_filter, List.filter_filter]
      refine List.filter_congr fun q _ => ?_
      unfold hasT
      show _ = (inSt (q.b, q.e) m && stands kn q && decide (q.key = key))
      cases decide (q.key = key) <;> cases inSt (q.b, q.e) m <;> cases stands kn q <;> rfl
    rw [e, filter_map_swap Tile.run fun r => inSt (rst r) m]
    refine List.Perm.filter _ ?_
    exact ((p1.filter _).map _).trans ((tiles_ok key h).line kn hk)
  have one : ∀ {l : List LRow} {lo : Int}, Prp lo l → (l.filter fun r => inSt (rst r) m) = ((l.filter fun r => inSt (rst r) m).head?).toList := by
    intro l
    induction l with
    | nil => intro _ _; rfl
    | cons r l ih =>
      intro lo hp
      obtain ⟨b, e, t⟩ := r
      by_cases c : inSt (rst (b, e, t)) m = true
      · rw [List.filter_cons_of_pos (p := fun r => inSt (rst r) m) c]
        have : (l.filter fun r => inSt (rst r) m) = [] := by
          rw [List.filter_eq_nil_iff]
          intro q hq hin
          cases e with
          | none =>
            have : l = [] := hp.2
            rw [this] at hq
            cases hq
          | some e =>
            obtain ⟨h1, h2, h3⟩ := hp
            have := (h3.begins hq).1
            rw [rst, inSt_some] at c
            simp only [Bool.and_eq_true, decide_eq_true_eq] at c
            have hne := atL_lo h3 c.2
            rw [h3.at_in hq hin] at hne
            cases hne
        rw [this]
        rfl
      · rw [List.filter_cons_of_neg (p := fun r => inSt (rst r) m) c]
        cases e with
        | none =>
          have : l = [] := hp.2
          rw [this]
          rfl
        | some e => exact ih hp.2.2
  have hw : ∀ {l : List LRow} {lo : Int}, Prp lo l → Fil l → ((l.filter fun r => inSt (rst r) m).map fun r => (worthOf (some r.2.2)).getD "") = (wAt l m).toList := by
    intro l lo hp fl
    rw [one hp]
    have : (l.filter fun r => inSt (rst r) m).head? = l.find? fun r => inSt (rst r) m := List.head?_filter
    rw [this]
    have ha : atL l m = (l.find? fun r => inSt (rst r) m).map fun r => r.2.2 := by
      clear this hp fl
      induction l with
      | nil => rfl
      | cons r l ih =>
        rw [atL, List.find?_cons]
        cases inSt (rst r) m
        · simpa using ih
        · rfl
    unfold wAt
    rw [ha]
    cases e : l.find? fun r => inSt (rst r) m with
    | none => rfl
    | some r =>
      obtain ⟨w, hw⟩ := fl r (List.mem_of_find?_eq_some e)
      simp [hw, worthOf]
  have p3 := p2.map fun r => (worthOf (some r.2.2)).getD ""
  rw [hw g.prp g.fil, lineOf_wAt h', List.map_map] at p3
  have e : ((fun r : LRow => (worthOf (some r.2.2)).getD "") ∘ Tile.run) = Tile.w := by
    funext q
    rfl
  rw [e] at p3
  cases o : told (ts.take kn) key m with
  | none => rw [o] at p3; exact List.perm_nil.mp p3
  | some w => rw [o] at p3; exact List.perm_singleton.mp p3
end Tw

set_option Elab.async false
set_option linter.all false
set_option maxRecDepth 100000
set_option maxHeartbeats 4000000
namespace Tw
open PySem PySem.Spec PyProof.Rows L2
/-! ### further comprehensions, lookups -/
theorem lcL_none {n : Nat} {σ0 : List (Option D)} {own : List Nat} {chk : Wd → Prop} {g : MG} {t : M Bool} {e : M D} {k : Wd → Prop} {W0 : Wd} {xs : List D} (h : ∀ x ∈ xs, ∀ acc k, k none (W0 ++ [.lst acc]) → lcTurn σ0 own g t e x (W0 ++ [.lst acc]) k)
    (hc : ∀ acc, chk (W0 ++ [.lst acc])) (hk : k (W0 ++ [.lst []])) (hl : xs.length ≤ 1000000 := by omega) (hn : W0.length = n := by simp) : lcL σ0 own n chk g t e xs (W0 ++ [.lst []]) k := by
  subst hn
  have := lcL_map (enc := fun d : D => d) (fun _ => none) (xs := xs) (acc := []) h hc (by simpa using hl) (k := k) (by
    rw [show xs.filterMap (fun _ => (none : Option D)) = [] by simp]
    exact hk)
  rwa [List.map_id'] at this
theorem valD_fun {f : Str → D} {k : Str} : ∀ {ks : List Str}, k ∈ ks → valD (ks.map Sum.inr) (ks.map f) (.inr k) = some (f k)
  | [], h => by cases h
  | a :: l, h => by
    by_cases c : a = k
    · subst c
      simp [valD]
    · rw [List.map_cons, List.map_cons]
      have : valD (Sum.inr a :: l.map Sum.inr) (f a :: l.map f) (.inr k) = valD (l.map Sum.inr) (l.map f) (.inr k) := by simp [valD, c]
      rw [this]
      exact valD_fun (by rcases List.mem_cons.mp h with q | q; exact absurd q.symm c; exact q)
/-- what the tellings give at a moment, key by key -/
theorem all_eq {ts : List Tel} {ks : List Str} {k : Nat} {m : Int} (ok : ∀ t ∈ ts, okTel t) (nd : ks.Nodup) (h : ∀ t ∈ ts, t.key ∈ ks) : ((srtS ks).filterMap fun key => (told (ts.take k) key m).map fun w => (key, w)) = allR ts k m := by
  unfold allR
  rw [← keys_pick nd h, List.filterMap_filter]
  refine fm_congr fun key hkey => ?_
  split
  · rfl
  · rename_i c
    have e : lineOf (ts.take k) key = [] := by simpa using c
    have := lineOf_wAt (k := key) (m := m) (fun t ht => ok t (List.mem_of_mem_take ht) : ∀ t ∈ ts.take k, okTel t)
    rw [e] at this
    rw [← this]
    rfl
theorem when_eq {ts : List Tel} {k : Nat} {key w : Str} {ps : List Int} (ok : ∀ t ∈ ts, okTel t) (hp : ps.Pairwise (· < ·)) (hm : ∀ x, x ∈ ps ↔ x = 0 ∨ ∃ t ∈ ts.take k, x = t.b ∨ t.e = some x) : lineL (onlyF w (told (ts.take k) key)) ps = whenR ts k key w := by
  have ok' : ∀ t ∈ ts.take k, okTel t := fun t ht => ok t (List.mem_of_mem_take ht)
  have e : told (ts.take k) key = wAt (lineOf (ts.take k) key) := by
    funext m
    exact (lineOf_wAt ok').symm
  have b := lineOf_bnd (k := key) ok'
  rw [e]
  refine (pick_line (lineOf_good ok') hp (fun x hx => ?_) (fun r hr => ⟨?_, fun e he => ?_⟩) w).symm
  · rcases (hm x).mp hx with rfl | ⟨t, ht, q⟩
    · exact Int.le_refl _
    · have st := (ok' t ht).st
      rcases q with rfl | q
      · exact st.lo
      · have h1 := st.lo
        have h2 := (st.en x q).1
        omega
  · obtain ⟨t, ht, _, q⟩ := (b r hr).1
    exact (hm _).mpr (.inr ⟨t, ht, q⟩)
  · obtain ⟨t, ht, _, q⟩ := (b r hr).2 e he
    exact (hm _).mpr (.inr ⟨t, ht, q⟩)
theorem tel_bel (n : Nat) (t : Tel) : (telD t).bel n = true := by
  obtain ⟨k, w, b, e⟩ := t
  cases w <;> simp [telD, D.bel, D.bels, oD_bel]
theorem tel_lay (n : Nat) (t : Tel) : (telD t).lay (n + 1) = true := by
  obtain ⟨k, w, b, e⟩ := t
  cases w <;> simp [telD, D.lay, D.lays, lay_oD]
end Tw

set_option Elab.async false
set_option linter.all false
set_option maxRecDepth 100000
set_option maxHeartbeats 4000000
namespace Tw
open PySem PySem.Spec PyProof.Rows L2
/-! ### stories, row by row -/
def hasS (k : Nat) (r : SRow) : Bool := decide (r.1 ≤ k) && match r.2.1 with
  | none => true
  | some u => decide (k < u)
/-- steps: rising, all from lo on and below hi, neighbours unlike -/
structure StepOk (lo hi : Nat) (S : List Stp) : Prop where
  rise : S.Pairwise fun a b => a.1 < b.1
  low : ∀ a ∈ S, lo ≤ a.1 ∧ a.1 < hi
  ne : ∀ A a b B, S = A ++ a :: b :: B → a.2 ≠ b.2
theorem rowS_mem {s : Nat} {e : Option Nat} {w : Option Str} {r : SRow} (h : r ∈ rowS s e w) : r.1 = s ∧ r.2.1 = e ∧ w = some r.2.2 := by
  cases w with
  | none => simp [rowS] at h
  | some x => simp [rowS] at h; subst h; exact ⟨rfl, rfl, rfl⟩
theorem clR_mem : ∀ {S : List Stp} {e : Option Nat} {r : SRow}, r ∈ clR S e → ∃ A a B, S = A ++ a :: B ∧ r.1 = a.1 ∧ a.2 = some r.2.2 ∧ r.2.1 = (match B with
  | [] => e
  | b :: _ => some b.1)
  | [], _, _, h => by simp [clR] at h
  | [a], e, r, h => by
    obtain ⟨h1, h2, h3⟩ := rowS_mem h
    exact ⟨[], a, [], rfl, h1, h3, h2⟩
  | a :: b :: S, e, r, h => by
    simp only [clR, List.mem_append] at h
    rcases h with h | h
    · obtain ⟨h1, h2, h3⟩ := rowS_mem h
      exact ⟨[], a, b :: S, rfl, h1, h3, h2⟩
    · obtain ⟨A, a', B, e1, e2, e3, e4⟩ := clR_mem (S := b :: S) h
      exact ⟨a :: A, a', B, by rw [e1]; rfl, e2, e3, e4⟩
theorem StepOk.new {lo hi : Nat} {S : List Stp} {w : Option Str} (h : StepOk lo hi S) (hl : lo ≤ hi) (hn : ∀ A a, S = A ++ [a] → a.2 ≠ w) : StepOk lo (hi + 1) (S ++ [(hi, w)]) := by
  refine ⟨List.pairwise_append.mpr ⟨h.rise, List.pairwise_singleton _ _, fun a ha b hb => ?_⟩, fun a ha => ?_, fun A a b B e => ?_⟩
  · simp at hb
    subst hb
    exact (h.low a ha).2
  · rcases List.mem_append.mp ha with q | q
    · have := h.low a q
      omega
    · simp at q
      subst q
      exact ⟨hl, Nat.lt_succ_self _⟩
  · rcases snoc_cases B with rfl | ⟨B', b', rfl⟩
    · have e' : S ++ [(hi, w)] = (A ++ [a]) ++ [b] := by rw [e]; simp
      have := List.append_inj' e' rfl
      have hb := this.2
      simp at hb
      subst hb
      exact hn A a this.1
    · have e' : S ++ [(hi, w)] = (A ++ a :: b :: B') ++ [b'] := by rw [e]; simp
      exact h.ne A a b B' (List.append_inj' e' rfl).1
theorem StepOk.wk {lo hi : Nat} {S : List Stp} (h : StepOk lo hi S) : StepOk lo (hi + 1) S := ⟨h.rise, fun a ha => ⟨(h.low a ha).1, by have := (h.low a ha).2; omega⟩, h.ne⟩
theorem steps_ok (v : Nat → Option Str) (lo : Nat) : ∀ n, StepOk lo (lo + n) (stepsOf v lo n)
  | 0 => ⟨List.Pairwise.nil, fun a ha => by simp [stepsOf] at ha, fun A a b B e => by cases A <;> simp [stepsOf] at e⟩
  | n + 1 => by
    have ih := steps_ok v lo n
    rw [stepsOf]
    rcases snoc_cases (stepsOf v lo n) with e | ⟨A, a, e⟩
    · rw [e] at ih ⊢
      exact ih.new (w := v (lo + n)) (by omega) (fun A a z => by simp at z)
    · obtain ⟨s, w⟩ := a
      rw [e] at ih ⊢
      by_cases c : w = v (lo + n)
      · rw [← c, addStp_same]
        exact ih.wk
      · rw [addStp_new c]
        refine ih.new (by omega) fun A' a' z => ?_
        have := (List.append_inj' z rfl).2
        simp at this
        subst this
        exact c
/-- rows of a story: rising, apart, unlike where they touch -/
def SApart (a b : SRow) : Prop := ∃ u, a.2.1 = some u ∧ u ≤ b.1 ∧ (u = b.1 → a.2.2 ≠ b.2.2)
theorem clR_apart {lo hi : Nat} : ∀ {S : List Stp} {e : Option Nat}, StepOk lo hi S → (clR S e).Pairwise SApart
  | [], _, _ => List.Pairwise.nil
  | [a], e, _ => by
    obtain ⟨s, w⟩ := a
    cases w with
    | none => exact List.Pairwise.nil
    | some x => exact List.pairwise_singleton _ _
  | a :: b :: S, e, h => by
    have ht : StepOk lo hi (b :: S) := ⟨(List.pairwise_cons.mp h.rise).2, fun x hx => h.low x (List.mem_cons_of_mem _ hx), fun A x y B z => h.ne (a :: A) x y B (by rw [z]; rfl)⟩
    have ih := clR_apart (e := e) ht
    simp only [clR]
    refine List.pairwise_append.mpr ⟨?_, ih, fun r hr q hq => ?_⟩
    · obtain ⟨s, w⟩ := a
      cases w with
      | none => exact List.Pairwise.nil
      | some x => exact List.pairwise_singleton _ _
    · obtain ⟨r1, r2, r3⟩ := rowS_mem hr
      obtain ⟨A, c, B, e1, e2, e3, e4⟩ := clR_mem hq
      refine ⟨b.1, r2, ?_, fun z => ?_⟩
      · cases A with
        | nil => simp at e1; rw [e2, ← e1.1]; exact Nat.le_refl _
        | cons x A =>
          simp at e1
          have := (List.pairwise_cons.mp ht.rise).1 c (by rw [e1.2]; simp)
          rw [e2]
          omega
      · cases A with
        | nil =>
          simp at e1
          have hn := h.ne [] a b S rfl
          rw [r3, e1.1, e3] at hn
          exact fun y => hn (by rw [y])
        | cons x A =>
          simp at e1
          have := (List.pairwise_cons.mp ht.rise).1 c (by rw [e1.2]; simp)
          omega
theorem ends_le {lo hi e : Nat} {S : List Stp} (h : StepOk lo hi S) (he : hi ≤ e) {r : SRow} (hr : r ∈ clR S (some e)) : ∃ u, r.2.1 = some u ∧ u ≤ e := by
  obtain ⟨A, a, B, e1, e2, e3, e4⟩ := clR_mem hr
  cases B with
  | nil => exact ⟨e, e4, Nat.le_refl _⟩
  | cons b B =>
    have := (h.low b (by rw [e1]; simp)).2
    exact ⟨b.1, e4, by omega⟩
theorem not_has {k : Nat} {l : List SRow} (h : ∀ r ∈ l, hasS k r = false) : l.filter (hasS k) = [] := List.filter_eq_nil_iff.mpr fun r hr => by rw [h r hr]; simp
theorem has_end {k u : Nat} {r : SRow} (h : r.2.1 = some u) (hk : u ≤ k) : hasS k r = false := by
  unfold hasS
  rw [h]
  simp
  omega
theorem row_has {s k : Nat} (h : s ≤ k) (w : Option Str) : ((rowS s none w).filter (hasS k)).map (fun r => r.2.2) = w.toList := by
  cases w with
  | none => rfl
  | some x => simp [rowS, hasS, h]
theorem row_not {s k : Nat} (h : k < s) (e : Option Nat) (w : Option Str) : (rowS s e w).filter (hasS k) = [] := not_has fun r hr => by
  obtain ⟨h1, _, _⟩ := rowS_mem hr
  unfold hasS
  rw [h1]
  simp
  omega
theorem row_same {s k e : Nat} (h : k < e) (w : Option Str) : ((rowS s (some e) w).filter (hasS k)).map (fun r => r.2.2) = ((rowS s none w).filter (hasS k)).map (fun r => r.2.2) := by
  cases w with
  | none => rfl
  | some x =>
    by_cases c : s ≤ k
    · simp [rowS, hasS, c, h]
    · simp [rowS, hasS, c]
/-- at each knowing just the row with its worth, if any -/
theorem story_n (v : Nat → Option Str) (lo : Nat) : ∀ n k, lo ≤ k → k < lo + n → ((clR (stepsOf v lo n) none).filter (hasS k)).map (fun r => r.2.2) = (v k).toList
  | 0, k, h1, h2 => by omega
  | n + 1, k, h1, h2 => by
    have ih := story_n v lo n k h1
    have so := steps_ok v lo n
    rw [stepsOf]
    generalize stepsOf v lo n = S at ih so
    have newcase : clR (S ++ [(lo + n, v (lo + n))]) none = clR S (some (lo + n)) ++ rowS (lo + n) none (v (lo + n)) := clR_snoc _ _ _
    have newp : ((clR (S ++ [(lo + n, v (lo + n))]) none).filter (hasS k)).map (fun r => r.2.2) = (v k).toList := by
      rw [newcase, List.filter_append, List.map_append]
      by_cases c : k < lo + n
      · rw [row_not c, List.map_nil, List.append_nil, ← ih c]
        rcases snoc_cases S with rfl | ⟨A, a, rfl⟩
        · rfl
        · rw [clR_snoc, clR_snoc, List.filter_append, List.filter_append, List.map_append, List.map_append, row_same c]
      · obtain rfl : k = lo + n := by omega
        rw [not_has fun r hr => ?_, row_has (Nat.le_refl _)]
        · rfl
        · obtain ⟨u, hu, hle⟩ := ends_le so (Nat.le_refl _) hr
          exact has_end hu hle
    rcases snoc_cases S with e | ⟨A, a, e⟩
    · subst e
      exact newp
    · obtain ⟨s, w⟩ := a
      by_cases c : w = v (lo + n)
      · subst e
        subst c
        rw [addStp_same]
        by_cases ck : k < lo + n
        · exact ih ck
        · obtain rfl : k = lo + n := by omega
          have hs := (so.low (s, v (lo + n)) (by simp)).2
          have sA : StepOk lo (lo + n) A := ⟨(List.pairwise_append.mp so.rise).1, fun x hx => so.low x (by simp [hx]), fun A' x y B z => so.ne A' x y (B ++ [(s, v (lo + n))]) (by rw [z]; simp)⟩
          rw [clR_snoc, List.filter_append, List.map_append, not_has fun r hr => ?_, row_has (by simp at hs; omega)]
          · rfl
          · obtain ⟨A', a', B, e1, e2, e3, e4⟩ := clR_mem hr
            cases B with
            | nil => exact has_end e4 (by simp at hs; omega)
            | cons b B =>
              have := (sA.low b (by rw [e1]; simp)).2
              exact has_end e4 (by omega)
      · rw [e, addStp_new c, ← e]
        exact newp
theorem story_at {ts : List Tel} {lo k : Nat} (h1 : lo ≤ k) (h2 : k ≤ ts.length) (key : Str) (m : Int) : ((storyR ts lo key m).filter (hasS k)).map (fun r => r.2.2) = (worthK ts key m k).toList := story_n _ _ _ _ h1 (by omega)
theorem story_apart (ts : List Tel) (lo : Nat) (key : Str) (m : Int) : (storyR ts lo key m).Pairwise SApart := clR_apart (steps_ok _ _ _)
end Tw

set_option Elab.async false
set_option linter.all false
set_option maxRecDepth 100000
set_option maxHeartbeats 4000000
namespace Tw
open PySem PySem.Spec PyProof.Rows L2
/-! ### what all and who tell of one key, how many stretches have a moment -/
theorem line_none {ts : List Tel} {k : Nat} {key : Str} (h : key ∉ keysAt ts k) : lineOf (ts.take k) key = [] := by
  refine Classical.byContradiction fun c => h ?_
  unfold keysAt
  refine List.mem_filter.mpr ⟨srtS_mem.mpr ?_, by simpa using c⟩
  refine Classical.byContradiction fun hn => c (lineOf_other fun hk => hn ?_)
  obtain ⟨t, ht, rfl⟩ := keysOf_mem.mp hk
  exact keysOf_mem.mpr ⟨t, List.mem_of_mem_take ht, rfl⟩
theorem told_none {ts : List Tel} {k : Nat} {key : Str} {m : Int} (ok : ∀ t ∈ ts, okTel t) (h : key ∉ keysAt ts k) : told (ts.take k) key m = none := by
  rw [← lineOf_wAt fun t ht => ok t (List.mem_of_mem_take ht), line_none h]
  rfl
theorem pick_one (f : Str → Option Str) (key : Str) : ∀ {l : List Str}, l.Nodup → ((l.filterMap fun a => (f a).map fun w => (a, w)).filter fun p => decide (p.1 = key)).map (fun p => p.2) = if key ∈ l then (f key).toList else []
  | [], _ => rfl
  | a :: l, nd => by
    obtain ⟨n1, n2⟩ := List.nodup_cons.mp nd
    have ih := pick_one f key n2
    rw [List.filterMap_cons]
    by_cases c : a = key
    · subst c
      rw [if_neg n1] at ih
      rw [if_pos (by simp)]
      cases e : f a with
      | none => simpa using ih
      | some w => simp only [Option.map_some, List.filter_cons, decide_true, if_true, List.map_cons, ih, Option.toList_some]
    · have e : (key ∈ a :: l) = (key ∈ l) := by simp [Ne.symm c]
      simp only [e]
      rw [← ih]
      cases f a with
      | none => rfl
      | some w => simp [c]
theorem all_one {ts : List Tel} {k : Nat} {key : Str} {m : Int} (ok : ∀ t ∈ ts, okTel t) : ((allR ts k m).filter fun p => decide (p.1 = key)).map (fun p => p.2) = (told (ts.take k) key m).toList := by
  unfold allR
  rw [pick_one (fun key => told (ts.take k) key m) key (keysAt_nodup ts k)]
  split
  · rfl
  · rename_i h
    rw [told_none ok h]
    rfl
theorem pick_flat (f : Str → List LRow) (key : Str) : ∀ {l : List Str}, l.Nodup → (((l.map fun a => (f a).map fun r => (a, r)).flatten).filter fun p => decide (p.1 = key)).map (fun p => p.2) = if key ∈ l then f key else []
  | [], _ => rfl
  | a :: l, nd => by
    obtain ⟨n1, n2⟩ := List.nodup_cons.mp nd
    have ih := pick_flat f key n2
    rw [List.map_cons, List.flatten_cons, List.filter_append, List.map_append, ih]
    by_cases c : a = key
    · subst c
      rw [if_neg n1, if_pos (by simp), List.append_nil, List.filter_eq_self.mpr (fun p hp => by obtain ⟨r, _, rfl⟩ := List.mem_map.mp hp; simp), List.map_map]
      simp [Function.comp_def]
    · have e : (key ∈ a :: l) = (key ∈ l) := by simp [Ne.symm c]
      simp only [e]
      rw [List.filter_eq_nil_iff.mpr (fun p hp => by obtain ⟨r, _, rfl⟩ := List.mem_map.mp hp; simpa using c)]
      rfl
theorem who_one {ts : List Tel} {k : Nat} {key w : Str} : ((whoR ts k w).filter fun p => decide (p.1 = key)).map (fun p => p.2) = whenR ts k key w := by
  unfold whoR
  rw [pick_flat (fun key => whenR ts k key w) key (keysAt_nodup ts k)]
  split
  · rfl
  · rename_i h
    rw [whenR, line_none h]
    rfl
theorem prp_count {m : Int} : ∀ {l : List LRow} {lo : Int}, Prp lo l → (l.filter fun r => inSt (rst r) m).length = (atL l m).toList.length
  | [], _, _ => rfl
  | (b, none, t) :: l, lo, h => by
    have e : l = [] := h.2
    subst e
    rw [atL, List.filter_cons, List.filter_nil]
    split <;> rfl
  | (b, some e, t) :: l, lo, h => by
    obtain ⟨h1, h2, h3⟩ := h
    have ih := prp_count (m := m) h3
    rw [atL, List.filter_cons]
    split
    · rename_i c
      rw [rst, inSt_some] at c
      simp only [Bool.and_eq_true, decide_eq_true_eq] at c
      rw [List.length_cons, ih, atL_lo h3 c.2]
      rfl
    · exact ih
theorem when_count {ts : List Tel} {k : Nat} {key w : Str} {m : Int} (ok : ∀ t ∈ ts, okTel t) : ((whenR ts k key w).filter fun r => inSt (rst r) m).length = if told (ts.take k) key m = some w then 1 else 0 := by
  have g : Good (lineOf (ts.take k) key) := lineOf_good fun t ht => ok t (List.mem_of_mem_take ht)
  have hp : Prp 0 (whenR ts k key w) := (g.can.pick (t := [some w]) (t1 := none) (fun z => by cases z)).prp
  rw [prp_count hp, whenR, pick_at g.prp, g.fil.at, lineOf_wAt fun t ht => ok t (List.mem_of_mem_take ht)]
  cases told (ts.take k) key m with
  | none => simp [tl]
  | some v =>
    by_cases c : v = w
    · subst c; simp [tl]
    · simp [tl, c]
end Tw

set_option Elab.async false
set_option linter.all false
set_option maxRecDepth 100000
set_option maxHeartbeats 4000000
namespace Tw
open PySem PySem.Spec PyProof.Rows L2
/-! ### worths that are pairs of worths, told by texts -/
def encO : Option Str → List Nat
  | none => [0]
  | some s => (s.cps.toList.length + 1) :: s.cps.toList
theorem encO_inj {a b : Option Str} {r r' : List Nat} (h : encO a ++ r = encO b ++ r') : a = b ∧ r = r' := by
  cases a with
  | none =>
    cases b with
    | none => simpa [encO] using h
    | some t => simp [encO] at h
  | some s =>
    cases b with
    | none => simp [encO] at h
    | some t =>
      simp only [encO, List.cons_append, List.cons.injEq] at h
      obtain ⟨h1, h2⟩ := List.append_inj h.2 (by omega)
      exact ⟨by rw [str_ext h1], h2⟩
def pcode (p : Option Str × Option Str) : Str := ⟨(encO p.1 ++ encO p.2).toArray⟩
theorem pcode_inj {p q : Option Str × Option Str} (h : pcode p = pcode q) : p = q := by
  have e : encO p.1 ++ encO p.2 = encO q.1 ++ encO q.2 := by
    have := congrArg (fun s => s.cps.toList) h
    simpa [pcode] using this
  obtain ⟨h1, h2⟩ := encO_inj e
  have h3 : encO p.2 ++ [] = encO q.2 ++ [] := by rw [h2]
  exact Prod.ext h1 (encO_inj h3).1
open Classical in
noncomputable def unp (s : Str) : Option (Option Str × Option Str) := if h : ∃ p, pcode p = s then some h.choose else none
theorem unp_code (p : Option Str × Option Str) : unp (pcode p) = some p := by
  unfold unp
  have h : ∃ q, pcode q = pcode p := ⟨p, rfl⟩
  rw [dif_pos h, pcode_inj h.choose_spec]
theorem unp_some {s : Str} {p : Option Str × Option Str} (h : unp s = some p) : s = pcode p := by
  unfold unp at h
  split at h
  · rename_i e
    cases h
    exact e.choose_spec.symm
  · cases h
/-- how a worth is shown: by itself, or as the pair that it tells -/
inductive Ep | s | p
def prD (p : Option Str × Option Str) : D := .tup [oS p.1, oS p.2]
noncomputable def exD : Ep → Str → D
  | .s, z => .str z
  | .p, z => match unp z with
    | some p => prD p
    | none => .str z
noncomputable def oX (e : Ep) : Option Str → D
  | none => .non
  | some z => exD e z
theorem oX_s (o : Option Str) : oX .s o = oS o := by cases o <;> rfl
theorem oX_none (e : Ep) : oX e none = .non := rfl
theorem oX_p (p : Option Str × Option Str) : oX .p (some (pcode p)) = prD p := by simp only [oX, exD, unp_code]
theorem exD_p (z : Str) : exD .p z = .str z ∧ unp z = none ∨ ∃ p, exD .p z = prD p ∧ z = pcode p := by
  cases e : unp z with
  | none => exact .inl ⟨by simp only [exD, e], rfl⟩
  | some p => exact .inr ⟨p, by simp only [exD, e], unp_some e⟩
theorem exD_kind (e : Ep) (z : Str) : (∃ s, exD e z = .str s) ∨ ∃ p, exD e z = prD p := by
  cases e with
  | s => exact .inl ⟨z, rfl⟩
  | p =>
    rcases exD_p z with ⟨h, _⟩ | ⟨p, h, _⟩
    · exact .inl ⟨z, h⟩
    · exact .inr ⟨p, h⟩
theorem vw_oX (W : Wd) (e : Ep) (o : Option Str) : vw W (oX e o) = oX e o := by
  cases o with
  | none => rfl
  | some z => rcases exD_kind e z with ⟨s, h⟩ | ⟨p, h⟩ <;> simp only [oX, h, prD] <;> rfl
theorem lay_oX (n : Nat) (e : Ep) (o : Option Str) : (oX e o).lay (n + 1) = true := by
  cases o with
  | none => simp [oX, D.lay]
  | some z => rcases exD_kind e z with ⟨s, h⟩ | ⟨p, h⟩ <;> simp [oX, h, prD, D.lay, D.lays, lay_oS]
theorem isNon_oX (e : Ep) (o : Option Str) : isNon (oX e o) = o.isNone := by
  cases o with
  | none => rfl
  | some z => rcases exD_kind e z with ⟨s, h⟩ | ⟨p, h⟩ <;> simp [oX, h, prD, isNon]
theorem oX_bel (n : Nat) (e : Ep) (o : Option Str) : (oX e o).bel n = true := by
  cases o with
  | none => rfl
  | some z => rcases exD_kind e z with ⟨s, h⟩ | ⟨p, h⟩ <;> simp [oX, h, prD, D.bel, D.bels, oS_bel]
theorem eq_prD (p q : Option Str × Option Str) : D.eq (prD p) (prD q) = decide (p = q) := by
  obtain ⟨a, b⟩ := p
  obtain ⟨c, d⟩ := q
  simp only [prD, D.eq, D.eqs, eq_oS, Bool.and_true]
  by_cases h1 : a = c <;> by_cases h2 : b = d <;> simp [h1, h2]
theorem eq_oX (e : Ep) (a b : Option Str) : D.eq (oX e a) (oX e b) = (a == b) := by
  cases e with
  | s => rw [oX_s, oX_s, eq_oS]
  | p =>
    cases a with
    | none =>
      cases b with
      | none => simp [oX, D.eq]
      | some z => rcases exD_kind .p z with ⟨s, h⟩ | ⟨p, h⟩ <;> simp [oX, h, prD, D.eq]
    | some y =>
      cases b with
      | none => rcases exD_kind .p y with ⟨s, h⟩ | ⟨p, h⟩ <;> simp [oX, h, prD, D.eq]
      | some z =>
        show D.eq (exD .p y) (exD .p z) = _
        rcases exD_p y with ⟨h1, n1⟩ | ⟨p1, h1, c1⟩ <;> rcases exD_p z with ⟨h2, n2⟩ | ⟨p2, h2, c2⟩
        · rw [h1, h2]
          by_cases c : y = z <;> simp [D.eq, c]
        · have c : y ≠ z := fun c => by rw [c, c2, unp_code] at n1; cases n1
          simp [h1, h2, prD, D.eq, c]
        · have c : y ≠ z := fun c => by rw [← c, c1, unp_code] at n2; cases n2
          simp [h1, h2, prD, D.eq, c]
        · rw [h1, h2, eq_prD]
          by_cases c : p1 = p2
          · subst c
            simp [c1, c2]
          · have : y ≠ z := fun z' => by rw [c1, c2] at z'; exact c (pcode_inj z')
            simp [c, this]
theorem eqs_oX (e : Ep) : ∀ t u : Tl, D.eqs (t.map (oX e)) (u.map (oX e)) = decide (t = u)
  | [], [] => by simp [D.eqs]
  | [], _ :: _ => by simp [D.eqs]
  | _ :: _, [] => by simp [D.eqs]
  | a :: t, b :: u => by
    simp only [List.map_cons, D.eqs, eq_oX, eqs_oX e t u]
    by_cases c1 : a = b <;> by_cases c2 : t = u <;> simp [c1, c2]
theorem eqs_oXc (e : Ep) (ct t : Tl) (o : Option Str) : D.eqs (ct.map (oX e)) (oX e o :: t.map (oX e)) = decide (ct = o :: t) := by rw [← List.map_cons, eqs_oX]
theorem lays_oX (n : Nat) (e : Ep) : ∀ t : Tl, D.lays (n + 1) (t.map (oX e)) = true
  | [] => by simp [D.lays]
  | o :: t => by simp [D.lays, lay_oX, lays_oX n e t]
theorem bels_oX (n : Nat) (e : Ep) : ∀ t : Tl, D.bels n (t.map (oX e)) = true
  | [] => by simp [D.bels]
  | o :: t => by simp [D.bels, oX_bel, bels_oX n e t]
noncomputable def rowX (e : Ep) (r : LRow) : D := .tup (.int r.1 :: oD r.2.1 :: r.2.2.map (oX e))
theorem rowX_eq (p : Ep) (b : Int) (e : Option Int) (t : Tl) : rowX p (b, e, t) = .tup (.int b :: oD e :: t.map (oX p)) := rfl
theorem rowX_s (r : LRow) : rowX .s r = rowD r := by
  unfold rowX rowD
  rw [show oX .s = oS from funext oX_s]
theorem rowX_S : rowX .s = rowD := funext rowX_s
theorem rowX_bel (n : Nat) (e : Ep) (r : LRow) : (rowX e r).bel n = true := by simp [rowX, D.bel, D.bels, bels_oX, oD_bel]
theorem bels_rowX (n : Nat) (e : Ep) : ∀ l : List LRow, D.bels n (l.map (rowX e)) = true
  | [] => by simp [D.bels]
  | r :: l => by simp [D.bels, rowX_bel, bels_rowX n e l]
theorem rowX_lay (n : Nat) (e : Ep) (r : LRow) : (rowX e r).lay (n + 2) = true := by simp [rowX, D.lay, D.lays, lays_oX, lay_oD]
theorem lays_rowX (n : Nat) (e : Ep) : ∀ l : List LRow, D.lays (n + 2) (l.map (rowX e)) = true
  | [] => by simp [D.lays]
  | r :: l => by simp [D.lays, rowX_lay, lays_rowX n e l]
/-! ### rows told otherwise, some left out -/
def fmT (g : Tl → Option Tl) (l : List LRow) : List LRow := l.filterMap fun r => (g r.2.2).map fun t => (r.1, r.2.1, t)
theorem fmT_cons (g : Tl → Option Tl) (r : LRow) (l : List LRow) : fmT g (r :: l) = ((g r.2.2).map fun t => (r.1, r.2.1, t)).toList ++ fmT g l := by
  unfold fmT
  rw [List.filterMap_cons]
  cases (g r.2.2) <;> rfl
theorem fmT_prp (g : Tl → Option Tl) : ∀ {l : List LRow} {lo : Int}, Prp lo l → Prp lo (fmT g l)
  | [], _, _ => trivial
  | (b, none, t) :: l, lo, h => by
    have e : l = [] := h.2
    subst e
    rw [fmT_cons]
    cases g t with
    | none => trivial
    | some u => exact ⟨h.1, rfl⟩
  | (b, some e, t) :: l, lo, h => by
    obtain ⟨h1, h2, h3⟩ := h
    have ih := fmT_prp g h3
    rw [fmT_cons]
    simp only
    cases g t with
    | none => exact ih.mono (by omega)
    | some u => exact ⟨h1, h2, ih⟩
theorem fmT_at (g : Tl → Option Tl) {m : Int} : ∀ {l : List LRow} {lo : Int}, Prp lo l → atL (fmT g l) m = (atL l m).bind g
  | [], _, _ => rfl
  | (b, none, t) :: l, lo, h => by
    have e : l = [] := h.2
    subst e
    rw [fmT_cons, atL_none]
    simp only
    by_cases c : b ≤ m
    · rw [if_pos c]
      cases e : g t with
      | none => simp [fmT, atL, e]
      | some u => simp [fmT, atL, rst, inSt_none, c, e]
    · rw [if_neg c]
      cases e : g t with
      | none => simp [fmT, atL]
      | some u => simp [fmT, atL, rst, inSt_none, c]
  | (b, some e, t) :: l, lo, h => by
    obtain ⟨h1, h2, h3⟩ := h
    have ih := fmT_at g (m := m) h3
    rw [fmT_cons, atL_some]
    simp only
    by_cases c : b ≤ m ∧ m < e
    · rw [if_pos c]
      cases eg : g t with
      | none =>
        rw [show (Option.map (fun t => (b, some e, t)) (none : Option Tl)).toList ++ fmT g l = fmT g l from rfl, ih, atL_lo h3 c.2]
        simp [eg]
      | some u =>
        rw [show (Option.map (fun t => (b, some e, t)) (some u)).toList ++ fmT g l = (b, some e, u) :: fmT g l from rfl, atL_some, if_pos c]
        simp [eg]
    · rw [if_neg c]
      cases eg : g t with
      | none =>
        rw [show (Option.map (fun t => (b, some e, t)) (none : Option Tl)).toList ++ fmT g l = fmT g l from rfl, ih]
      | some u =>
        rw [show (Option.map (fun t => (b, some e, t)) (some u)).toList ++ fmT g l = (b, some e, u) :: fmT g l from rfl, atL_some, if_neg c, ih]
theorem fmT_len (g : Tl → Option Tl) (l : List LRow) : (fmT g l).length ≤ l.length := List.length_filterMap_le _ _
theorem Can.flt (p : Tl → Bool) : ∀ {l : List LRow} {lo : Int} {t0 : Option Tl}, Can lo t0 l → Can lo t0 (l.filter fun r => p r.2.2)
  | [], _, _, _ => trivial
  | (b, none, t) :: l, lo, t0, h => by
    have e : l = [] := h.2.2
    subst e
    rw [List.filter_cons]
    split
    · exact h
    · trivial
  | (b, some e, t) :: l, lo, t0, h => by
    obtain ⟨h1, h2, h3, h4⟩ := h
    have ih := Can.flt p h4
    rw [List.filter_cons]
    split
    · exact ⟨h1, h2, h3, ih⟩
    · exact ih.weak (by omega)
theorem flt_fm (p : Tl → Bool) : ∀ l : List LRow, (l.filter fun r => p r.2.2) = fmT (fun t => if p t = true then some t else none) l
  | [] => rfl
  | r :: l => by
    rw [List.filter_cons, fmT_cons, flt_fm p l]
    split <;> rfl
theorem Can.nil_at {l : List LRow} {lo : Int} {t0 : Option Tl} (h : Can lo t0 l) (q : ∀ m, atL l m = none) : l = [] := h.uniq (lo2 := 0) (t2 := none) (l2 := []) trivial fun m => q m
/-! ### two lines laid together, shown otherwise -/
noncomputable def z5X (e : Ep) (p : Z5) : D := .tup [.int p.1, oD p.2.1, oX e p.2.2.1, oX e p.2.2.2]
theorem zipB_zipX (q : Ep) (l1 l2 : List LRow) : ∀ bs : List Int, zip4D (bs.map D.int) ((bs.drop 1).map D.int ++ [D.non]) ((bs.map (wAt l1)).map (oX q)) ((bs.map (wAt l2)).map (oX q)) = (zipB l1 l2 bs).map (z5X q)
  | [] => by simp [zip4D, zipB]
  | [x] => by simp [zip4D, zipB, z5X, oD]
  | x :: y :: l => by
    have := zipB_zipX q l1 l2 (y :: l)
    simp only [List.map_cons, List.drop_succ_cons, List.drop_zero, List.cons_append, zip4D, zipB, List.head?_cons, z5X, oD] at this ⊢
    rw [this]
theorem lays_rowX1 (q : Ep) (p : List LRow) (b : Int) (e : Option Int) (t : Tl) (n : Nat) : D.lays (n + 2) (p.map (rowX q) ++ [D.tup (D.int b :: oD e :: t.map (oX q))]) = true := by
  have := lays_rowX n q (p ++ [(b, e, t)])
  rw [List.map_append, List.map_singleton, rowX_eq] at this
  exact this
/-! ### changes: rows by keys -/
abbrev P2 := Option Str × Option Str
def tlp (p : Option P2) : Option Tl := p.map fun p => [p.1, p.2]
def chg (a b : Option Str) : Option P2 := if a = b then none else some (a, b)
def jn (f g : Option P2) : Option P2 := match f.or g, g.or f with
  | some p, some q => if p.1 = q.2 then none else some (p.1, q.2)
  | _, _ => none
def swp (p : P2) : P2 := (p.2, p.1)
theorem jn_chg (a b c : Option Str) : jn (chg a b) (chg b c) = chg a c := by
  unfold chg
  by_cases h1 : a = b
  · subst h1
    by_cases h2 : a = c
    · subst h2
      simp [jn]
    · simp [h2, jn]
  · by_cases h2 : b = c
    · subst h2
      simp [h1, jn]
    · by_cases h3 : a = c
      · subst h3
        simp [h1, h2, jn]
      · simp [h1, h2, h3, jn]
theorem swp_chg (a b : Option Str) : (chg a b).map swp = chg b a := by
  unfold chg
  by_cases h : a = b
  · subst h
    simp
  · rw [if_neg h, if_neg (Ne.symm h)]
    rfl
def crD (p : Str × LRow) : D := .tup (.str p.1 :: .int p.2.1 :: oD p.2.2.1 :: p.2.2.2.map oS)
def flatK (ks : List Str) (L : Str → List LRow) : List (Str × LRow) := (ks.map fun k => (L k).map fun r => (k, r)).flatten
/-- the rows that a law of changes makes: keys rise, each key's line is told whole -/
structure CLx (F : Str → Int → Option P2) (ks : List Str) (L : Str → List LRow) : Prop where
  srt : ks.Pairwise fun a b => sLe a b = true
  nd : ks.Nodup
  can : ∀ k, Can 0 none (L k)
  at_ : ∀ k ∈ ks, ∀ m, atL (L k) m = tlp (F k m)
  out : ∀ k, k ∉ ks → ∀ m, F k m = none
def CL (F : Str → Int → Option P2) (R : List (Str × LRow)) : Prop := ∃ ks L, CLx F ks L ∧ R = flatK ks L
theorem flatK_flt (L : Str → List LRow) : ∀ ks : List Str, flatK ks L = flatK (ks.filter fun k => !(L k).isEmpty) L
  | [] => rfl
  | k :: ks => by
    have ih := flatK_flt L ks
    unfold flatK at ih ⊢
    rw [List.map_cons, List.flatten_cons, ih, List.filter_cons]
    split
    · rw [List.map_cons, List.flatten_cons]
    · rename_i c
      have : L k = [] := by simpa using c
      rw [this]
      rfl
theorem flatK_congr {L L' : Str → List LRow} : ∀ {ks : List Str}, (∀ k ∈ ks, L k = L' k) → flatK ks L = flatK ks L'
  | [], _ => rfl
  | k :: ks, h => by
    have ih := flatK_congr (ks := ks) fun a ha => h a (List.mem_cons_of_mem _ ha)
    unfold flatK at ih ⊢
    rw [List.map_cons, List.flatten_cons, List.map_cons, List.flatten_cons, ih, h k List.mem_cons_self]
theorem CLx.ne {F : Str → Int → Option P2} {ks : List Str} {L : Str → List LRow} (h : CLx F ks L) (k : Str) : (k ∈ ks ∧ L k ≠ []) ↔ ∃ m, F k m ≠ none := by
  constructor
  · rintro ⟨h1, h2⟩
    refine Classical.byContradiction fun hn => h2 ((h.can k).nil_at fun m => ?_)
    have : F k m = none := Classical.byContradiction fun z => hn ⟨m, z⟩
    rw [h.at_ k h1, this]
    rfl
  · rintro ⟨m, hm⟩
    have h1 : k ∈ ks := Classical.byContradiction fun z => hm (h.out k z m)
    refine ⟨h1, fun z => hm ?_⟩
    have := h.at_ k h1 m
    rw [z] at this
    cases e : F k m with
    | none => rfl
    | some p => rw [e] at this; cases this
theorem CL.uniq {F : Str → Int → Option P2} {R R' : List (Str × LRow)} (h : CL F R) (h' : CL F R') : R = R' := by
  obtain ⟨ks, L, c, rfl⟩ := h
  obtain ⟨ks', L', c', rfl⟩ := h'
  have ek : (ks.filter fun k => !(L k).isEmpty) = ks'.filter fun k => !(L' k).isEmpty := by
    refine srt_ext (c.srt.filter _) (c'.srt.filter _) (c.nd.filter _) (c'.nd.filter _) fun a => ?_
    have h1 := c.ne a
    have h2 := c'.ne a
    simp only [List.mem_filter, Bool.not_eq_true', List.isEmpty_eq_false_iff]
    rw [h1, h2]
  rw [flatK_flt L ks, flatK_flt L' ks', ek]
  refine flatK_congr fun k hk => ?_
  have hk' := hk
  rw [← ek] at hk'
  refine (c.can k).uniq (c'.can k) fun m => ?_
  rw [c.at_ k (List.mem_filter.mp hk').1, c'.at_ k (List.mem_filter.mp hk).1]
theorem CL.congr {F G : Str → Int → Option P2} {R : List (Str × LRow)} (h : CL F R) (e : ∀ k m, F k m = G k m) : CL G R := by
  have : F = G := funext fun k => funext fun m => e k m
  rw [← this]
  exact h
/-- one key's rows -/
def rowsOf (R : List (Str × LRow)) (k : Str) : List LRow := (R.filter fun p => decide (p.1 = k)).map fun p => p.2
theorem CLx.rows {F : Str → Int → Option P2} {ks : List Str} {L : Str → List LRow} (h : CLx F ks L) (k : Str) : rowsOf (flatK ks L) k = if k ∈ ks then L k else [] := pick_flat L k h.nd
theorem CL.rows_can {F : Str → Int → Option P2} {R : List (Str × LRow)} (h : CL F R) (k : Str) : Can 0 none (rowsOf R k) := by
  obtain ⟨ks, L, c, rfl⟩ := h
  rw [c.rows]
  split
  · exact c.can k
  · trivial
theorem CL.rows_at {F : Str → Int → Option P2} {R : List (Str × LRow)} (h : CL F R) (k : Str) (m : Int) : atL (rowsOf R k) m = tlp (F k m) := by
  obtain ⟨ks, L, c, rfl⟩ := h
  rw [c.rows]
  split
  · rename_i q
    exact c.at_ k q m
  · rename_i q
    rw [c.out k q m]
    rfl
theorem CL.nil (F : Str → Int → Option P2) (h : ∀ k m, F k m = none) : CL F [] := ⟨[], fun _ => [], ⟨List.Pairwise.nil, List.nodup_nil, fun _ => trivial, fun _ z => (by cases z), fun k _ m => h k m⟩, rfl⟩
theorem mem_rows {R : List (Str × LRow)} {p : Str × LRow} (h : p ∈ R) : p.2 ∈ rowsOf R p.1 := List.mem_map.mpr ⟨p, List.mem_filter.mpr ⟨h, by simp⟩, rfl⟩
theorem rows_mem {R : List (Str × LRow)} {k : Str} {r : LRow} (h : r ∈ rowsOf R k) : (k, r) ∈ R := by
  obtain ⟨p, hp, rfl⟩ := List.mem_map.mp h
  obtain ⟨h1, h2⟩ := List.mem_filter.mp hp
  have : p.1 = k := by simpa using h2
  rw [← this]
  exact h1
theorem rows_len (R : List (Str × LRow)) (k : Str) : (rowsOf R k).length ≤ R.length := by
  unfold rowsOf
  rw [List.length_map]
  exact List.length_filter_le _ _
/-- each row has the pair that its law gives at its begin -/
theorem CL.dbl {F : Str → Int → Option P2} {R : List (Str × LRow)} (h : CL F R) {p : Str × LRow} (hp : p ∈ R) : ∃ q : P2, p.2.2.2 = [q.1, q.2] ∧ F p.1 p.2.1 = some q := by
  have h1 := (h.rows_can p.1).prp.at_mem (mem_rows hp)
  rw [h.rows_at] at h1
  cases e : F p.1 p.2.1 with
  | none => rw [e] at h1; cases h1
  | some q =>
    rw [e] at h1
    exact ⟨q, (Option.some.inj h1).symm, rfl⟩
/-- the keys of which there are rows -/
theorem CLx.of {F : Str → Int → Option P2} {ks : List Str} {L : Str → List LRow} (h1 : ks.Pairwise fun a b => sLe a b = true) (h2 : ks.Nodup) (h3 : ∀ k ∈ ks, Can 0 none (L k)) (h4 : ∀ k ∈ ks, ∀ m, atL (L k) m = tlp (F k m)) (h5 : ∀ k, k ∉ ks → ∀ m, F k m = none) : CL F (flatK ks L) := by
  refine ⟨ks, fun k => if k ∈ ks then L k else [], ⟨h1, h2, fun k => ?_, fun k hk m => ?_, h5⟩, flatK_congr fun k hk => ?_⟩
  · split
    · rename_i c
      exact h3 k c
    · trivial
  · rw [if_pos hk]
    exact h4 k hk m
  · rw [if_pos hk]
theorem flatK_snoc (ks : List Str) (k : Str) (L : Str → List LRow) : flatK (ks ++ [k]) L = flatK ks L ++ (L k).map fun r => (k, r) := by simp [flatK]
theorem cr_bel (n : Nat) (p : Str × LRow) : (crD p).bel n = true := by simp [crD, D.bel, D.bels, oD_bel, bels_oS]
theorem cr_lay (n : Nat) (p : Str × LRow) : (crD p).lay (n + 1) = true := by simp [crD, D.lay, D.lays, lay_oD, lays_oS]
theorem eq_crD (p q : Str × LRow) : D.eq (crD p) (crD q) = decide (p = q) := by
  obtain ⟨k, b, e, t⟩ := p
  obtain ⟨k', b', e', t'⟩ := q
  have h := eq_rowD (b, e, t) (b', e', t')
  simp only [rowD, D.eq, D.eqs, crD] at h ⊢
  rw [h]
  by_cases c1 : k = k' <;> by_cases c2 : (b, e, t) = (b', e', t') <;> simp [c1, c2]
  all_goals (first | exact fun z => c2 (by rw [z.1, z.2.1, z.2.2]) | skip)
theorem eqs_cr : ∀ l m : List (Str × LRow), D.eqs (l.map crD) (m.map crD) = decide (l = m)
  | [], [] => by simp [D.eqs]
  | [], _ :: _ => by simp [D.eqs]
  | _ :: _, [] => by simp [D.eqs]
  | a :: l, b :: m => by
    simp only [List.map_cons, D.eqs, eq_crD, eqs_cr l m]
    by_cases c1 : a = b <;> by_cases c2 : l = m <;> simp [c1, c2]
end Tw

set_option Elab.async false
set_option linter.all false
set_option maxRecDepth 100000
set_option maxHeartbeats 4000000
namespace Tw
open PySem PySem.Spec PyProof.Rows L2
/-! ### tellings by their places -/
theorem tel_tup (t : Tel) : ∃ l, telD t = .tup l ∧ atI l (-2) = some (.int t.b) ∧ atI l (-1) = some (oD t.e) ∧ atI l 1 = some (.str t.key) ∧ l.length ≤ 5 := by
  obtain ⟨k, w, b, e⟩ := t
  cases w with
  | none => exact ⟨_, rfl, rfl, rfl, rfl, by simp⟩
  | some w => exact ⟨_, rfl, rfl, rfl, rfl, by simp⟩
theorem pickI {l : List Int} {r : Int} (h0 : 0 ≤ r) (h1 : r < (l.length : Nat)) : ∃ a ∈ l, atI (l.map D.int) r = some (.int a) := pickD (enc := D.int) h0 h1
theorem mod4 (x : Int) : 0 ≤ x % 4 ∧ x % 4 < 4 := ⟨Int.emod_nonneg _ (by decide), Int.emod_lt_of_pos _ (by decide)⟩
theorem modN {x n : Int} (h : 0 < n) : 0 ≤ x % n ∧ x % n < n := ⟨Int.emod_nonneg _ (by omega), Int.emod_lt_of_pos _ h⟩
/-! ### pairs as worths of lines -/
def prT : Tl → Tl
  | [a, b] => [some (pcode (a, b))]
  | t => t
theorem mapT_prp (g : Tl → Tl) : ∀ {l : List LRow} {lo : Int}, Prp lo l → Prp lo (mapT g l)
  | [], _, _ => trivial
  | (b, none, t) :: l, lo, h => by
    have e : l = [] := h.2
    subst e
    exact ⟨h.1, rfl⟩
  | (b, some e, t) :: l, lo, h => ⟨h.1, h.2.1, mapT_prp g h.2.2⟩
theorem rowX_pr (b : Int) (e : Option Int) (p q : Option Str) : rowX .p (b, e, prT [p, q]) = .tup [.int b, oD e, .tup [oS p, oS q]] := by
  show D.tup (D.int b :: oD e :: [oX .p (some (pcode (p, q)))]) = _
  rw [oX_p]
  rfl
theorem CL.pr_sing {F : Str → Int → Option P2} {R : List (Str × LRow)} (h : CL F R) (k : Str) : Sing (mapT prT (rowsOf R k)) := fun r hr => by
  obtain ⟨q, hq, rfl⟩ := List.mem_map.mp hr
  obtain ⟨p, hp, _⟩ := h.dbl (rows_mem hq)
  simp only at hp
  exact ⟨some (pcode (p.1, p.2)), by simp only [hp, prT]⟩
theorem CL.pr_at {F : Str → Int → Option P2} {R : List (Str × LRow)} (h : CL F R) (k : Str) (m : Int) : wAt (mapT prT (rowsOf R k)) m = (F k m).map pcode := by
  rw [wAt, mapT_at, h.rows_at]
  cases F k m with
  | none => rfl
  | some p => rfl
noncomputable def jT : Tl → Option Tl
  | [x, y] => tlp (jn (x.bind unp) (y.bind unp))
  | _ => none
theorem jT_at (f g : Option P2) : (two (f.map pcode) (g.map pcode)).bind jT = tlp (jn f g) := by
  cases f with
  | none =>
    cases g with
    | none => rfl
    | some q => simp [two, jT, unp_code]
  | some p =>
    cases g with
    | none => simp [two, jT, unp_code]
    | some q => simp [two, jT, unp_code]
theorem rows_sum (ks : List Str) (nd : ks.Nodup) : ∀ R : List (Str × LRow), (ks.map fun k => (rowsOf R k).length).sum ≤ R.length
  | [] => by
    have : ks.map (fun k => (rowsOf [] k).length) = ks.map (fun _ => 0) := List.map_congr_left fun _ _ => rfl
    rw [this]
    clear this nd
    induction ks with
    | nil => simp
    | cons a l ih => simpa using ih
  | p :: R => by
    have h := rows_sum ks nd R
    have := sum_bump (f := fun k => (rowsOf R k).length) (f' := fun k => (rowsOf (p :: R) k).length) (k0 := p.1) (c := 1) (fun k hk => by
      unfold rowsOf
      rw [List.filter_cons_of_neg (by simpa using Ne.symm hk)]) (by
      unfold rowsOf
      rw [List.filter_cons_of_pos (by simp)]
      simp) nd
    simp only [List.length_cons]
    omega
theorem flatK_len (L : Str → List LRow) : ∀ ks : List Str, (flatK ks L).length = (ks.map fun k => (L k).length).sum
  | [] => rfl
  | k :: ks => by
    have ih := flatK_len L ks
    unfold flatK at ih ⊢
    rw [List.map_cons, List.flatten_cons, List.length_append, ih, List.length_map, List.map_cons, List.sum_cons]
theorem sum_le {f g : Str → Nat} : ∀ {ks : List Str}, (∀ k ∈ ks, f k ≤ g k) → (ks.map f).sum ≤ (ks.map g).sum
  | [], _ => Nat.le_refl _
  | k :: ks, h => by
    have h1 := h k List.mem_cons_self
    have h2 := sum_le (ks := ks) fun a ha => h a (List.mem_cons_of_mem _ ha)
    simp only [List.map_cons, List.sum_cons]
    omega
theorem sum_add2 (f g : Str → Nat) (c : Nat) : ∀ ks : List Str, (ks.map fun k => c * (f k + g k)).sum = c * ((ks.map f).sum + (ks.map g).sum)
  | [] => by simp
  | k :: ks => by
    have := sum_add2 f g c ks
    rw [List.map_cons, List.sum_cons, this, List.map_cons, List.map_cons, List.sum_cons, List.sum_cons]
    generalize (List.map f ks).sum = a
    generalize (List.map g ks).sum = b
    rw [← Nat.mul_add]
    congr 1
    omega
/-- a key more -/
theorem flatK_upd {ks : List Str} {key : Str} {L : Str → List LRow} (l : List LRow) (h : key ∉ ks) : flatK (ks ++ [key]) (fun k => if k = key then l else L k) = flatK ks L ++ l.map fun r => (key, r) := by
  rw [flatK_snoc, if_pos rfl, flatK_congr (L' := L) fun k hk => if_neg fun z => h (by rw [← z]; exact hk)]
theorem dAdd_rd {h : Bool} {a b : D} {l m : List D} {S : AS} {P : D → AS → Prop} {X : XA} (ha : rdM S.W a = some l) (hb : rdM S.W b = some m) (hz : l.length + m.length ≤ sizeLine) (q : newL h (l ++ m) S P X) : dAdd h a b S P X := by
  have e : dAdd h a b S P X = (match rdM S.W a, rdM S.W b with
    | some l, some m => l.length + m.length ≤ sizeLine ∧ newL h (l ++ m) S P X
    | _, _ => False) := by
    rcases rd2 ha with rfl | ⟨n, rfl, hn⟩ <;> rcases rd2 hb with rfl | ⟨k, rfl, hk⟩ <;> rfl
  rw [e, ha, hb]
  exact ⟨hz, q⟩
theorem cr_eq (k : Str) (b : Int) (e : Option Int) (t : Tl) : crD (k, b, e, t) = .tup (.str k :: .int b :: oD e :: t.map oS) := rfl
theorem fmT_app (g : Tl → Option Tl) (l m : List LRow) : fmT g (l ++ m) = fmT g l ++ fmT g m := List.filterMap_append
theorem fmT_one (g : Tl → Option Tl) (b : Int) (e : Option Int) (t : Tl) : fmT g [(b, e, t)] = ((g t).map fun u => (b, e, u)).toList := by
  rw [fmT_cons]
  exact List.append_nil _
theorem mapT_len (g : Tl → Tl) (l : List LRow) : (mapT g l).length = l.length := List.length_map _
def pD : Option P2 → D
  | none => .non
  | some p => .tup [oS p.1, oS p.2]
theorem rowX_2 (b : Int) (e : Option Int) (x y : Option P2) : rowX .p (b, e, [x.map pcode, y.map pcode]) = .tup [.int b, oD e, pD x, pD y] := by
  show D.tup (D.int b :: oD e :: [oX .p (x.map pcode), oX .p (y.map pcode)]) = _
  have : ∀ z : Option P2, oX .p (z.map pcode) = pD z := fun z => by
    cases z with
    | none => rfl
    | some p => exact oX_p p
  rw [this, this]
theorem two_some {x y : Option P2} {t : Tl} (h : two (x.map pcode) (y.map pcode) = some t) : t = [x.map pcode, y.map pcode] ∧ ¬ (x = none ∧ y = none) := by
  unfold two at h
  split at h
  · cases h
  · rename_i c
    exact ⟨(Option.some.inj h).symm, fun z => c (by rw [z.1, z.2]; exact ⟨rfl, rfl⟩)⟩
theorem jT_2 (x y : Option P2) : jT [x.map pcode, y.map pcode] = tlp (jn x y) := by
  have u : ∀ z : Option P2, (z.map pcode).bind unp = z := fun z => by
    cases z with
    | none => rfl
    | some p => exact unp_code p
  simp only [jT, u]
/-! ### what was put on one key -/
def putsK (ts : List Tel) (key : Str) : List LRow := rowsOf (ts.map fun t => (t.key, t.b, t.e, [t.w])) key
theorem putsK_snoc (ts : List Tel) (t : Tel) (key : Str) : putsK (ts ++ [t]) key = putsK ts key ++ if t.key = key then [(t.b, t.e, [t.w])] else [] := by
  unfold putsK rowsOf
  rw [List.map_append, List.filter_append, List.map_append]
  congr 1
  by_cases c : t.key = key <;> simp [c]
theorem putsK_at (key : Str) (m : Int) (ts : List Tel) : wAt (putsK ts key).reverse m = told ts key m := snoc_ind (p := fun ts => wAt (putsK ts key).reverse m = told ts key m) rfl (fun ts t ih => by
  rw [putsK_snoc, told_snoc]
  by_cases c : t.key = key
  · rw [if_pos c, wAt_snoc, ih]
    by_cases d : inSt (t.b, t.e) m = true
    · rw [if_pos d, if_pos ⟨c, d⟩]
    · rw [if_neg d, if_neg fun z => d z.2]
  · rw [if_neg c, List.append_nil, ih, if_neg fun z => c z.1]) ts
theorem putsK_mem {ts : List Tel} {key : Str} {r : LRow} (h : r ∈ putsK ts key) : ∃ t ∈ ts, t.key = key ∧ r = (t.b, t.e, [t.w]) := by
  have h1 := rows_mem h
  obtain ⟨t, ht, e⟩ := List.mem_map.mp h1
  simp only [Prod.mk.injEq] at e
  exact ⟨t, ht, e.1, e.2.symm⟩
theorem putsK_sing (ts : List Tel) (key : Str) : Sing (putsK ts key) := fun r hr => by
  obtain ⟨t, _, _, rfl⟩ := putsK_mem hr
  exact ⟨t.w, rfl⟩
theorem putsK_len (ts : List Tel) (key : Str) : (putsK ts key).length ≤ ts.length := by
  have := rows_len (ts.map fun t => (t.key, t.b, t.e, [t.w])) key
  unfold putsK
  simpa using this
theorem putsK_sum (ts : List Tel) {ks : List Str} (nd : ks.Nodup) : (ks.map fun k => (putsK ts k).length).sum ≤ ts.length := by
  have := rows_sum ks nd (ts.map fun t => (t.key, t.b, t.e, [t.w]))
  unfold putsK
  simpa using this
theorem told_other {ts : List Tel} {key : Str} (h : ∀ t ∈ ts, t.key ≠ key) (m : Int) : told ts key m = none := by
  have e : putsK ts key = [] := by
    unfold putsK rowsOf
    rw [List.filter_eq_nil_iff.mpr fun p hp => ?_]
    · rfl
    · obtain ⟨t, ht, rfl⟩ := List.mem_map.mp hp
      simpa using h t ht
  rw [← putsK_at, e]
  rfl
def un2 : Option Tl → Option Tl
  | some [a, b] => tlp (chg a b)
  | _ => none
theorem un2_two (a b : Option Str) : un2 (two a b) = tlp (chg a b) := by
  unfold two
  split
  · rename_i h
    rw [h.1, h.2]
    rfl
  · rfl
theorem chg_steps {l1 l2 : List LRow} {ys : List Int} (h1 : ∀ r ∈ l1, r.1 ∈ ys ∧ ∀ e, r.2.1 = some e → e ∈ ys) (h2 : ∀ r ∈ l2, r.1 ∈ ys ∧ ∀ e, r.2.1 = some e → e ∈ ys) : Steps ys (fun m => tlp (chg (wAt l1 m) (wAt l2 m))) := by
  obtain ⟨a, b⟩ := f2_steps h1 h2
  refine ⟨fun m hm => ?_, fun x hx m hxm hn => ?_⟩
  · have := congrArg un2 (a m hm)
    rwa [f2, un2_two] at this
  · have := congrArg un2 (b x hx m hxm hn)
    rwa [f2, f2, un2_two, un2_two] at this
/-- rows of keys, neighbours of one key joined -/
def joinK (T : List (Str × LRow)) (key : Str) (r : LRow) : List (Str × LRow) := match T.getLast? with
  | some c => if c.1 = key ∧ c.2.2.1 = some r.1 ∧ c.2.2.2 = r.2.2 then T.dropLast ++ [(key, c.2.1, r.2)] else T ++ [(key, r)]
  | none => [(key, r)]
theorem joinK_nil (key : Str) (r : LRow) : joinK [] key r = [(key, r)] := rfl
theorem joinK_snoc (P : List (Str × LRow)) (c : Str × LRow) (key : Str) (r : LRow) : joinK (P ++ [c]) key r = if c.1 = key ∧ c.2.2.1 = some r.1 ∧ c.2.2.2 = r.2.2 then P ++ [(key, c.2.1, r.2)] else P ++ [c] ++ [(key, r)] := by
  unfold joinK
  rw [List.getLast?_append]
  simp
theorem joinK_part {F : List (Str × LRow)} {key : Str} (h : ∀ p ∈ F, p.1 ≠ key) (part : List LRow) (r : LRow) : joinK (F ++ part.map fun q => (key, q)) key r = F ++ (joinStep part r).map fun q => (key, q) := by
  rcases snoc_cases part with rfl | ⟨P, c, rfl⟩
  · rcases snoc_cases F with rfl | ⟨G, g, rfl⟩
    · rfl
    · rw [List.map_nil, List.append_nil, joinK_snoc, if_neg fun z => h g (by simp) z.1]
      rfl
  · rw [List.map_append, ← List.append_assoc, List.map_singleton, joinK_snoc, joinStep_snoc]
    by_cases d : c.2.1 = some r.1 ∧ c.2.2 = r.2.2
    · rw [if_pos ⟨rfl, d⟩, if_pos d]
      simp
    · rw [if_neg fun z => d z.2, if_neg d]
      simp
theorem joinK_len (T : List (Str × LRow)) (key : Str) (r : LRow) : (joinK T key r).length ≤ T.length + 1 := by
  rcases snoc_cases T with rfl | ⟨P, c, rfl⟩
  · simp [joinK]
  · rw [joinK_snoc]
    split <;> simp
theorem dSl_rd {h : Bool} {d : D} {lo hi : Option Int} {l : List D} {S : AS} {P : D → AS → Prop} {X : XA} (hd : rdM S.W d = some l) (q : newL h (cutD l lo hi) S P X) : dSl h d lo hi S P X := by
  rcases rd2 hd with rfl | ⟨n, rfl, hn⟩
  · exact q
  · rw [dSl_hnd]
    simp only [hn]
    exact q
theorem dIx_rd {d : D} {i : Int} {l : List D} {S : AS} {P : D → AS → Prop} {X : XA} {x : D} (hd : rdM S.W d = some l) (hx : atI l i = some x) (q : P x S) : dIx d (.int i) S P X := by
  rcases rd2 hd with rfl | ⟨n, rfl, hn⟩
  · rw [dIx_lst, hx]
    exact q
  · rw [dIx_hndi]
    simp only [hn, hx]
    exact q
theorem bLen_rd {d : D} {l : List D} {S : AS} {P : D → AS → Prop} {X : XA} (hd : rdM S.W d = some l) (q : P (.int l.length) S) : bLen [d] S P X := by
  rcases rd2 hd with rfl | ⟨n, rfl, hn⟩
  · exact q
  · rw [bLen_hnd]
    simp only [hn]
    exact q
end Tw

set_option Elab.async false
set_option linter.all false
set_option maxRecDepth 100000
set_option maxHeartbeats 4000000
namespace Tw
open PySem PySem.Spec PyProof.Rows L2
/-! ### == of dicts whose values are data -/
def DictD (K : PySem.W.Frag) (H : Hp) : List (Key × V) → List (Key × PyData) → Prop := Paired fun p q => p.1 = q.1 ∧ Dp K H p.2 q.2 ∧ q.2.plain = true ∧ q.2.depth ≤ 55
def findP (ps : List (Key × PyData)) (k : Key) : Option PyData := (ps.find? fun q => decide (q.1 = k)).map (·.2)
def oneEq (ps : List (Key × PyData)) (p : Key × PyData) : Bool := match findP ps p.1 with
  | some y => PyData.eqv p.2 y
  | none => false
def dEqP (ps ps' : List (Key × PyData)) : Bool := ps.length == ps'.length && ps.all (oneEq ps')
section
variable {X : Cx}
theorem findP_val {K : PySem.W.Frag} {H : Hp} {k : Key} : ∀ {kvs : List (Key × V)} {ps : List (Key × PyData)} {vs : List (Key × Value)}, DictD K H kvs ps → KV kvs vs →
    (findP ps k = none ∧ valueAt vs k = none) ∨ ∃ d v u, findP ps k = some d ∧ valueAt vs k = some u ∧ RelV v u ∧ Dp K H v d ∧ d.plain = true ∧ d.depth ≤ 55
  | _, _, _, .nil, .nil => .inl ⟨rfl, rfl⟩
  | _, _, _, .cons (a := (ka, va)) (b := (kb, xb)) h t, .cons (b := (kc, uc)) g r => by
    obtain ⟨h1, h2, h3, h4⟩ := h
    obtain ⟨g1, g2⟩ := g
    dsimp only at h1 h2 h3 h4 g1 g2
    subst h1
    subst g1
    by_cases c : ka = k
    · refine .inr ⟨xb, va, uc, by simp [findP, c], by simp [valueAt, c], g2, h2, h3, h4⟩
    · rcases findP_val (k := k) t r with ⟨q1, q2⟩ | ⟨d, v, u, q1, q2, q3⟩
      · exact .inl ⟨by simpa [findP, c] using q1, by simpa [valueAt, c] using q2⟩
      · exact .inr ⟨d, v, u, by simpa [findP, c] using q1, by simpa [valueAt, c] using q2, q3⟩
theorem hitsD {pins : List (Addr × Obj)} {σ : L2.St} {H : Hp} {s : Shared} {A : Around} (I : Inv X pins σ H s) (hu : A.units + 60 < cLine) {kvs' : List (Key × V)} {ps' : List (Key × PyData)} {vb : List (Key × Value)} (d' : DictD X.K H kvs' ps') (kb : KV kvs' vb) :
    ∀ {kvs : List (Key × V)} {ps : List (Key × PyData)} {va : List (Key × Value)}, DictD X.K H kvs ps → KV kvs va → PySem.W.KeqHits A s vb va (ps.all (oneEq ps'))
  | _, _, _, .nil, .nil => .nil
  | _, _, _, .cons (a := (ka, wa)) (b := (kc, xb)) h t, .cons (b := (ke, uc)) g r => by
    obtain ⟨h1, h2, h3, h4⟩ := h
    obtain ⟨g1, g2⟩ := g
    dsimp only at h1 h2 h3 h4 g1 g2
    subst h1
    subst g1
    have ih := hitsD I hu d' kb t r
    rw [List.all_cons]
    rcases findP_val (k := ka) d' kb with ⟨q1, q2⟩ | ⟨d, v, u, q1, q2, q3, q4, q5, q6⟩
    · rw [show oneEq ps' (ka, xb) = false by simp [oneEq, q1], Bool.false_and]
      exact .miss q2
    · obtain ⟨as, ra⟩ := Dp.reads I xb wa uc h2 g2
      obtain ⟨bs, rb⟩ := Dp.reads I d v u q4 q3
      have e := SeqAt.eqAt_plain xb d A s uc u as bs ra rb h3 q5 (by have := Nat.min_le_left xb.depth d.depth; omega)
      rw [show oneEq ps' (ka, xb) = PyData.eqv xb d by simp [oneEq, q1]]
      exact .hit q2 e ih
def rDD (K : PySem.W.Frag) (neg : Bool) : R2 := fun x y H Q => ∃ a b kvs kvs' ps ps', x = .ref a ∧ y = .ref b ∧ Rd H a (.dK kvs) ∧ Rd H b (.dK kvs') ∧ DictD K H kvs ps ∧ DictD K H kvs' ps' ∧ Q (.bl (negb neg (dEqP ps ps'))) H
theorem dict_of {pins : List (Addr × Obj)} {σ : L2.St} {H : Hp} {s : Shared} (I : Inv X pins σ H s) {a : Addr} {kvs : List (Key × V)} (h : Rd H a (.dK kvs)) : (a == sysModules) = false ∧ ∃ vs, KV kvs vs ∧ s.heap.DictOf (mixKind X.prog X.w) a vs := by
  have q : ObjOk X.prog X.w H s.heap a (.dK kvs) := by
    rcases h with h | ⟨o, h⟩
    · exact I.hok a _ h
    · exact (I.hok a _ h).2
  exact ⟨q.2.1, q.2.2⟩
theorem op_eqDD (hu : X.A.units + 64 < cLine) : OpR X (compareOp .Eq) (rDD X.K false) := by
  intro pins s σ H x y v u Q I rx ry h
  obtain ⟨a, b, kvs, kvs', ps, ps', rfl, rfl, ha, hb, d, d', q⟩ := h
  cases (show v = Value.ref a from rx)
  cases (show u = Value.ref b from ry)
  obtain ⟨ya, va, ka, da⟩ := dict_of I ha
  obtain ⟨yb, vb, kb, db⟩ := dict_of I hb
  refine PySem.W.keq_eq (knd := mixKind X.prog X.w) (r := ps.all (oneEq ps')) ya yb da db (by omega) (fun _ => hitsD I (by show X.A.units + 1 + 60 < cLine; omega) d' kb d ka) ⟨.bl (dEqP ps ps'), H, I, ?_, q⟩
  have e1 : va.length = ps.length := by rw [← ka.length, d.length]
  have e2 : vb.length = ps'.length := by rw [← kb.length, d'.length]
  rw [e1, e2]
  rfl
theorem op_neDD (hu : X.A.units + 64 < cLine) : OpR X (compareOp .NotEq) (rDD X.K true) := by
  intro pins s σ H x y v u Q I rx ry h
  obtain ⟨a, b, kvs, kvs', ps, ps', rfl, rfl, ha, hb, d, d', q⟩ := h
  cases (show v = Value.ref a from rx)
  cases (show u = Value.ref b from ry)
  obtain ⟨ya, va, ka, da⟩ := dict_of I ha
  obtain ⟨yb, vb, kb, db⟩ := dict_of I hb
  refine PySem.W.keq_ne (knd := mixKind X.prog X.w) (r := ps.all (oneEq ps')) ya yb da db (by omega) (fun _ => hitsD I (by show X.A.units + 1 + 60 < cLine; omega) d' kb d ka) ⟨.bl (!dEqP ps ps'), H, I, ?_, q⟩
  have e1 : va.length = ps.length := by rw [← ka.length, d.length]
  have e2 : vb.length = ps'.length := by rw [← kb.length, d'.length]
  rw [e1, e2]
  rfl
end
/-- .. by data -/
def dctEq (W : Wd) (ks : List Key) (l : List D) (ks' : List Key) (l' : List D) : Bool := (ks.zip l).length == (ks'.zip l').length && (ks.zip l).all fun p => match valD ks' l' p.1 with
  | some d => (vw W p.2).eq (vw W d)
  | none => false
def dDD (neg : Bool) : Dop := fun a b S P _ => match rdD S.W a, rdD S.W b with
  | some (ks, l), some (ks', l') => (∀ d ∈ l, (vw S.W d).lay 55 = true) ∧ (∀ d ∈ l', (vw S.W d).lay 55 = true) ∧ P (.bl (negb neg (dctEq S.W ks l ks' l'))) S
  | _, _ => False
def datD (W : Wd) (d : D) : PyData := ((vw W d).py).getD .none
theorem dictD_of {K : PySem.W.Frag} {B H : Hp} {φ : List Addr} {W : Wd} (R : RelW K B φ W H) : ∀ {kvs : List (Key × V)} {l : List D}, Reps K B φ l (kvs.map (·.2)) → (∀ d ∈ l, (vw W d).lay 55 = true) → DictD K H kvs (((kvs.map (·.1)).zip l).map fun p => (p.1, datD W p.2))
  | [], [], _, _ => .nil
  | [], _ :: _, h, _ => by simp [Reps] at h
  | _ :: _, [], h, _ => by simp [Reps] at h
  | (k, v) :: kvs, d :: l, h, hl => by
    obtain ⟨x, r, e, h1, h2⟩ := h.cons_inv
    simp only [List.map_cons, List.cons.injEq] at e
    obtain ⟨rfl, rfl⟩ := e
    obtain ⟨xd, ed, pd, zd⟩ := D.py_lay 55 _ (hl d List.mem_cons_self)
    have e2 : datD W d = xd := by simp [datD, ed]
    refine .cons ⟨rfl, ?_, ?_, ?_⟩ (dictD_of R h2 fun y hy => hl y (List.mem_cons_of_mem _ hy))
    · show Dp K H v (datD W d)
      rw [e2]; exact vw_dp R h1 ed
    · show (datD W d).plain = true
      rw [e2]; exact pd
    · show (datD W d).depth ≤ 55
      rw [e2]; exact zd
theorem findP_zip (W : Wd) (k : Key) : ∀ (ks : List Key) (l : List D), findP ((ks.zip l).map fun p => (p.1, datD W p.2)) k = (valD ks l k).map (datD W)
  | [], _ => by simp [findP, valD]
  | _ :: _, [] => by simp [findP, valD]
  | k0 :: ks, d :: l => by
    have ih := findP_zip W k ks l
    by_cases c : k0 = k
    · simp [findP, valD, c]
    · simp only [valD, if_neg c, List.zip_cons_cons, List.map_cons]
      rw [← ih]
      simp [findP, c]
theorem valD_mem {k : Key} {d : D} : ∀ {ks : List Key} {l : List D}, valD ks l k = some d → d ∈ l
  | [], _, h => by simp [valD] at h
  | _ :: _, [], h => by simp [valD] at h
  | k0 :: ks, d0 :: l, h => by
    by_cases c : k0 = k
    · simp [valD, c] at h
      subst h
      exact List.mem_cons_self
    · simp only [valD, if_neg c] at h
      exact List.mem_cons_of_mem _ (valD_mem h)
theorem dctEq_P {W : Wd} {ks ks' : List Key} {l l' : List D} (h : ∀ d ∈ l, (vw W d).lay 55 = true) (h' : ∀ d ∈ l', (vw W d).lay 55 = true) : dEqP ((ks.zip l).map fun p => (p.1, datD W p.2)) ((ks'.zip l').map fun p => (p.1, datD W p.2)) = dctEq W ks l ks' l' := by
  unfold dEqP dctEq
  rw [List.length_map, List.length_map, List.all_map]
  congr 1
  rw [Bool.eq_iff_iff, List.all_eq_true, List.all_eq_true]
  have one : ∀ p ∈ ks.zip l, (oneEq ((ks'.zip l').map fun p => (p.1, datD W p.2)) ∘ fun p => (p.1, datD W p.2)) p = (match valD ks' l' p.1 with
      | some d => (vw W p.2).eq (vw W d)
      | none => false) := fun p hp => by
    simp only [Function.comp_apply, oneEq, findP_zip]
    cases e : valD ks' l' p.1 with
    | none => rfl
    | some d =>
      simp only [Option.map_some]
      obtain ⟨x1, e1, _, _⟩ := D.py_lay 55 _ (h p.2 (List.of_mem_zip hp).2)
      obtain ⟨x2, e2, _, _⟩ := D.py_lay 55 _ (h' d (valD_mem e))
      have d1 : datD W p.2 = x1 := by simp [datD, e1]
      have d2 : datD W d = x2 := by simp [datD, e2]
      rw [d1, d2, D.eq_py _ _ _ _ e1 e2]
  constructor
  · intro q p hp
    rw [← one p hp]
    exact q p hp
  · intro q p hp
    rw [one p hp]
    exact q p hp
theorem opa_DD {K : PySem.W.Frag} {WE : WX} (neg : Bool) : OpA K WE (rDD K neg) (dDD neg) := by
  intro B φ S σ H a b x y Q R ra rb q
  obtain ⟨P, Xx, h1, h2, h3⟩ := q
  unfold dDD at h1
  split at h1
  · rename_i ks l ks' l' ea eb
    obtain ⟨la, lb, h1⟩ := h1
    obtain ⟨pa, kvs, rfl, xa, rfl, ya⟩ := rdD_ok R.w ra ea
    obtain ⟨pb, kvs', rfl, xb, rfl, yb⟩ := rdD_ok R.w rb eb
    refine ⟨pa, pb, kvs, kvs', _, _, rfl, rfl, xa, xb, dictD_of R.w ya la, dictD_of R.w yb lb, Run.fin h2 h1 R ?_⟩
    rw [dctEq_P la lb]
    simp only [Rep]
  · exact h1.elim
end Tw

set_option Elab.async false
set_option linter.all false
set_option maxRecDepth 100000
set_option maxHeartbeats 4000000
namespace Tw
open PySem PySem.Spec PyProof.Rows L2
/-! ### list(d), dict(d): a dict's keys, a copy -/
def bListD (h : Bool) (ds : List D) : M D := fun S P X => match ds with
  | [d] => (match rdD S.W d with
    | some (ks, _) => newL h (ks.map keyD) S P X
    | none => False)
  | _ => False
def bDictD (h : Bool) (ds : List D) : M D := fun S P X => match ds with
  | [d] => (match rdD S.W d with
    | some (ks, l) => newD h ks l S P X
    | none => False)
  | _ => False
theorem reps_keys {K : PySem.W.Frag} {B : Hp} {φ : List Addr} : ∀ kvs : List (L2.Key × V), Reps K B φ ((kvs.map (·.1)).map keyD) (kvs.map fun kv => kV kv.1)
  | [] => Reps.nil
  | p :: kvs => Reps.cons (rep_key p.1) (reps_keys kvs)
section
variable {X : Cx} {WE : WX}
theorem ca_listD (h : Bool) : CallA X.K WE (fun xs H Q => ∃ (a : Addr) (kvs : List (L2.Key × V)), xs = [.ref a] ∧ Rd H a (.dK kvs) ∧ ∀ p, H p = none → Q (.ref p) (upd H p (.lst (kvs.map fun kv => kV kv.1)))) (bListD h) := by
  intro B φ S σ H ds vs Q R r q
  obtain ⟨P, Xx, h1, h2, h3⟩ := q
  unfold bListD at h1
  split at h1
  · rename_i d
    split at h1
    · rename_i ks l hd
      obtain ⟨v, rfl, rv⟩ := one_inv r
      obtain ⟨a, kvs, rfl, hk, rfl, hr⟩ := rdD_ok R.w rv hd
      exact ⟨a, kvs, rfl, hk, fun p hp => newL_ok R ⟨P, Xx, h1, h2, h3⟩ (reps_keys kvs) hp⟩
    · exact h1.elim
  · exact h1.elim
theorem ca_dictD (h : Bool) : CallA X.K WE (fun xs H Q => ∃ (a : Addr) (kvs : List (L2.Key × V)), xs = [.ref a] ∧ Rd H a (.dK kvs) ∧ ∀ p, H p = none → Q (.ref p) (upd H p (.dK kvs))) (bDictD h) := by
  intro B φ S σ H ds vs Q R r q
  obtain ⟨P, Xx, h1, h2, h3⟩ := q
  unfold bDictD at h1
  split at h1
  · rename_i d
    split at h1
    · rename_i ks l hd
      obtain ⟨v, rfl, rv⟩ := one_inv r
      obtain ⟨a, kvs, rfl, hk, rfl, hr⟩ := rdD_ok R.w rv hd
      exact ⟨a, kvs, rfl, hk, fun p hp => newD_ok R ⟨P, Xx, h1, h2, h3⟩ rfl hr hp⟩
    · exact h1.elim
  · exact h1.elim
end
theorem listD_go {h : Bool} {d : D} {ks : List Key} {l : List D} {S : AS} {P : D → AS → Prop} {X : XA} (hd : rdD S.W d = some (ks, l)) (q : newL h (ks.map keyD) S P X) : bListD h [d] S P X := by
  show (match rdD S.W d with
    | some (ks, _) => newL h (ks.map keyD) S P X
    | none => False)
  rw [hd]
  exact q
theorem dictD_go {h : Bool} {d : D} {ks : List Key} {l : List D} {S : AS} {P : D → AS → Prop} {X : XA} (hd : rdD S.W d = some (ks, l)) (q : newD h ks l S P X) : bDictD h [d] S P X := by
  show (match rdD S.W d with
    | some (ks, l) => newD h ks l S P X
    | none => False)
  rw [hd]
  exact q
theorem DD_go {neg : Bool} {a b : D} {ks ks' : List Key} {l l' : List D} {S : AS} {P : D → AS → Prop} {X : XA} (ha : rdD S.W a = some (ks, l)) (hb : rdD S.W b = some (ks', l')) (la : ∀ d ∈ l, (vw S.W d).lay 55 = true) (lb : ∀ d ∈ l', (vw S.W d).lay 55 = true)
    (q : P (.bl (negb neg (dctEq S.W ks l ks' l'))) S) : dDD neg a b S P X := by
  show (match rdD S.W a, rdD S.W b with
  | some (ks, l), some (ks', l') => (∀ d ∈ l, (vw S.W d).lay 55 = true) ∧ (∀ d ∈ l', (vw S.W d).lay 55 = true) ∧ P (.bl (negb neg (dctEq S.W ks l ks' l'))) S
  | _, _ => False)
  rw [ha, hb]
  exact ⟨la, lb, q⟩
theorem keyD_strs (ks : List Str) : (ks.map Sum.inr : List Key).map keyD = ks.map D.str := by rw [List.map_map]; rfl
theorem doneX_drop {W : Wd} {X : Exn → Wd → Prop} {x : Exn} {g : Wd} (hb : x.bel W.length = true) (h : X x W) : DoneX W X x (W ++ g) := .inr ⟨W, g, rfl, rfl, Cl.refl _, hb, h⟩
/-- equal dicts of texts to lists: by what they show -/
theorem dctEq_strs {W : Wd} {ks ks' : List Str} {f f' : Str → D} (nd : ks.Nodup) (h : ∀ k, k ∈ ks ↔ k ∈ ks') (nd' : ks'.Nodup) (e : ∀ k ∈ ks, (vw W (f k)).eq (vw W (f' k)) = true) : dctEq W (ks.map Sum.inr) (ks.map f) (ks'.map Sum.inr) (ks'.map f') = true := by
  unfold dctEq
  have hl : ks.length = ks'.length := Nat.le_antisymm (sub_len nd fun x hx => (h x).mp hx) (sub_len nd' fun x hx => (h x).mpr hx)
  have z : ((ks.map Sum.inr : List Key).zip (ks.map f)).length = ((ks'.map Sum.inr : List Key).zip (ks'.map f')).length := by simp [hl]
  rw [z, beq_self_eq_true, Bool.true_and, List.all_eq_true]
  intro p hp
  rw [List.zip_map'] at hp
  obtain ⟨k, hk, rfl⟩ := List.mem_map.mp hp
  simp only
  rw [valD_fun ((h k).mp hk)]
  exact e k hk
theorem knAsk.imp2 {ts : List Tel} {lo : Nat} {k : Int} {X X' : Exn → Prop} {P P' : Prop} (h : knAsk ts lo k X P) (hx : ∀ x : Exn, x.fs = none → X x → X' x) (hp : 0 ≤ k → k ≤ (ts.length : Nat) → (lo : Int) ≤ k → P → P') : knAsk ts lo k X' P' := by
  unfold knAsk at h ⊢
  split
  · rename_i c
    rw [if_pos c] at h
    split
    · rename_i d
      rw [if_pos d] at h
      exact hx _ rfl h
    · rename_i d
      rw [if_neg d] at h
      exact hp c.1 c.2 (by omega) h
  · rename_i c
    rw [if_neg c] at h
    exact hx _ rfl h
theorem bel0 {x : Exn} (h : x.fs = none) (n : Nat) : x.bel n = true := by simp [Exn.bel, h]
theorem putD_new {ks : List Str} {k : Str} (h : k ∉ ks) (vs : List D) (d : D) : putD (ks.map Sum.inr) vs (.inr k) d = ((ks ++ [k]).map Sum.inr, vs ++ [d]) := by
  unfold putD
  rw [if_neg]
  · simp
  · simp only [List.any_map, List.any_eq_true, Function.comp_apply, decide_eq_true_eq, not_exists, not_and]
    intro x hx e
    cases e
    exact h hx
theorem Fr.app_of {W W1 : Wd} (f : Fr W [] W1) : ∃ g, W1 = W ++ g := by
  refine ⟨W1.drop W.length, ?_⟩
  have e : W1.take W.length = W := by
    apply List.ext_getElem?
    intro i
    by_cases c : i < W.length
    · rw [List.getElem?_take_of_lt c]
      exact f.2 i c (by simp)
    · rw [List.getElem?_eq_none (by simp; omega), List.getElem?_eq_none (by omega)]
  conv => lhs; rw [← List.take_append_drop W.length W1, e]
theorem Fr.doneX {W W1 : Wd} {X : Exn → Wd → Prop} {x : Exn} (f : Fr W [] W1) (hf : x.fs = none) (h : X x W) : DoneX W X x W1 := by
  obtain ⟨g, rfl⟩ := f.app_of
  exact doneX_drop (bel0 hf _) h
theorem Fr.val {W W1 : Wd} {P : D → Wd → Prop} {d : D} (f : Fr W [] W1) (hb : d.bel W.length = true) (h : P d W) : Done W P d W1 := by
  obtain ⟨g, rfl⟩ := f.app_of
  exact Done.val hb h
theorem Fr.own {W W1 : Wd} {P : D → Wd → Prop} {l : List D} {n : Nat} (f : Fr W [] W1) (hn : W.length ≤ n) (hw : W1[n]? = some (.lst l)) (hb : D.bels W.length l = true) (h : lstR P W l) : Done W P (.hnd n) W1 := by
  obtain ⟨g, rfl⟩ := f.app_of
  exact .inr ⟨W, g, rfl, rfl, Cl.refl _, .inr ⟨n, l, rfl, hn, hw, hb, h⟩⟩
theorem laid_chg (a b : Option Str) (p : Tl → Bool) (h : ∀ x y, p [x, y] = !(x == y)) : (two a b).bind (fun t => if p t = true then some t else none) = tlp (chg a b) := by
  unfold two chg
  by_cases h1 : a = b
  · subst h1
    by_cases h2 : a = none <;> simp [h2, h, tlp]
  · by_cases h2 : a = none ∧ b = none
    · exact absurd (h2.1.trans h2.2.symm) h1
    · simp [h1, h2, h, tlp]
theorem valD_out {f : Str → D} {k : Str} : ∀ {ks : List Str}, k ∉ ks → valD (ks.map Sum.inr) (ks.map f) (.inr k) = none
  | [], _ => by simp [valD]
  | a :: l, h => by
    have h1 : a ≠ k := fun e => h (by simp [e])
    have ih := valD_out (f := f) (ks := l) (k := k) fun z => h (List.mem_cons_of_mem _ z)
    simpa [valD, h1] using ih
/-- a line out of a table of lines, or none -/
theorem get_line {ts : List Tel} {k : Nat} {key : Str} {d : Nat} {S : AS} {P : D → AS → Prop} {X : XA} (hd : S.W[d]? = some (.dct ((keysAt ts k).map Sum.inr) ((keysAt ts k).map fun key => .lst ((lineOf (ts.take k) key).map rowD)))) (h : P (.lst ((lineOf (ts.take k) key).map rowD)) S) : getD2 (.hnd d) (.str key) (.lst []) S P X := by
  by_cases c : key ∈ keysAt ts k
  · exact get_some (rdD_hnd hd) rfl (valD_fun c) h
  · rw [line_none c] at h
    exact get_none (rdD_hnd hd) rfl (valD_out c) h
/-! ### changes laid on lines -/
def updL (L : Str → List LRow) (key : Str) (l : List LRow) : Str → List LRow := fun k => if k = key then l else L k
def chStep (L : Str → List LRow) (key : Str) (b : Int) (e : Option Int) (o1 o2 : Option Str) : Option (Str → List LRow) := if cutL (L key) b e = oneRow b e (tl o1) then some (updL L key (putL (L key) b e (tl o2))) else none
def chFold : (Str → List LRow) → List (Str × LRow) → Option (Str → List LRow)
  | L, [] => some L
  | L, (key, b, e, t) :: R => match t with
    | [o1, o2] => (match chStep L key b e o1 o2 with
      | some L' => chFold L' R
      | none => none)
    | _ => none
theorem putD_upd {key : Str} {d : D} {f : Str → D} : ∀ {ks : List Str}, ks.Nodup → putD (ks.map Sum.inr) (ks.map f) (.inr key) d = ((addK ks key).map Sum.inr, (addK ks key).map fun k => if k = key then d else f k) := fun {ks} nd => by
  unfold putD addK
  by_cases c : key ∈ ks
  · rw [if_pos c, if_pos]
    · refine Prod.ext rfl ?_
      simp only
      induction ks with
      | nil => cases c
      | cons a l ih =>
        obtain ⟨n1, n2⟩ := List.nodup_cons.mp nd
        by_cases ha : a = key
        · subst ha
          simp only [List.map_cons, repD, if_true]
          congr 1
          have : ∀ l : List Str, a ∉ l → repD (l.map Sum.inr) (l.map f) (.inr a) d = l.map fun k => if k = a then d else f k := by
            intro l
            induction l with
            | nil => intro _; rfl
            | cons b l ih2 =>
              intro hb
              have e1 : (Sum.inr b : Key) ≠ .inr a := fun z => hb (by cases z; simp)
              have e2 : b ≠ a := fun z => hb (by simp [z])
              simp only [List.map_cons, repD, if_neg e1, if_neg e2, ih2 fun z => hb (List.mem_cons_of_mem _ z)]
          exact this l n1
        · have hc : key ∈ l := by
            rcases List.mem_cons.mp c with q | q
            · exact absurd q.symm ha
            · exact q
          have e : (Sum.inr a : Key) ≠ .inr key := fun z => ha (by cases z; rfl)
          simp only [List.map_cons, repD, if_neg e, if_neg ha]
          rw [ih n2 hc]
    · simp only [List.any_map, List.any_eq_true, Function.comp_apply, decide_eq_true_eq]
      exact ⟨key, c, rfl⟩
  · rw [if_neg c, if_neg]
    · refine Prod.ext (by simp) ?_
      simp only [List.map_append, List.map_cons, List.map_nil, if_true]
      congr 1
      exact List.map_congr_left fun x hx => by
        have : x ≠ key := fun z => c (by rw [← z]; exact hx)
        rw [if_neg this]
    · simp only [List.any_map, List.any_eq_true, Function.comp_apply, decide_eq_true_eq, not_exists, not_and]
      intro x hx e
      cases e
      exact c hx
/-- a line out of lines, or none -/
theorem get_lines {L : Str → List LRow} {ks : List Str} {key : Str} {d : Nat} {S : AS} {P : D → AS → Prop} {X : XA} (hd : S.W[d]? = some (.dct (ks.map Sum.inr) (ks.map fun k => .lst ((L k).map rowD)))) (h0 : ∀ k, k ∉ ks → L k = []) (h : P (.lst ((L key).map rowD)) S) : getD2 (.hnd d) (.str key) (.lst []) S P X := by
  by_cases c : key ∈ ks
  · exact get_some (rdD_hnd hd) rfl (valD_fun c) h
  · rw [h0 key c] at h
    exact get_none (rdD_hnd hd) rfl (valD_out c) h
end Tw

set_option Elab.async false
set_option linter.all false
set_option maxRecDepth 100000
set_option maxHeartbeats 4000000
namespace Tw
open PySem PySem.Spec PyProof.Rows L2
/-! ### changes laid on the lines from which they are -/
theorem chFold_app (A B : List (Str × LRow)) : ∀ L : Str → List LRow, chFold L (A ++ B) = (chFold L A).bind fun L' => chFold L' B := by
  induction A with
  | nil => intro L; rfl
  | cons a A ih =>
    intro L
    obtain ⟨key, b, e, t⟩ := a
    rcases t with _ | ⟨o1, _ | ⟨o2, _ | ⟨o3, t⟩⟩⟩
    · rfl
    · rfl
    · rw [List.cons_append, chFold, chFold]
      cases chStep L key b e o1 o2 with
      | none => rfl
      | some L' => exact ih L'
    · rfl
theorem updL_same (L : Str → List LRow) (key : Str) (l : List LRow) : updL L key l key = l := if_pos rfl
theorem updL_upd (L : Str → List LRow) (key : Str) (l l' : List LRow) : updL (updL L key l) key l' = updL L key l' := funext fun k => by
  unfold updL
  split <;> rfl
theorem updL_self (L : Str → List LRow) (key : Str) : updL L key (L key) = L := funext fun k => by
  unfold updL
  split
  · rename_i h
    rw [h]
  · rfl
theorem Good.low {l : List LRow} (h : Good l) {m : Int} (hm : m < 0) : wAt l m = none := by
  rw [wAt, atL_lo h.prp hm]
  rfl
theorem tl_inj {a b : Option Str} (h : tl a = tl b) : a = b := by
  have := congrArg worthOf h
  rwa [worthOf_tl, worthOf_tl] at this
theorem one_can (b : Int) (e : Option Int) (w : Option Str) (h : okSt (b, e)) : Can 0 none (oneRow b e (tl w)) := by
  cases w with
  | none => trivial
  | some w =>
    cases e with
    | none => exact ⟨h.lo, fun _ => by simp, rfl⟩
    | some e => exact ⟨h.lo, fun _ => by simp, (h.en e rfl).1, trivial⟩
theorem one_at (b : Int) (e : Option Int) (w : Option Str) (m : Int) : atL (oneRow b e (tl w)) m = if inSt (b, e) m = true then tl w else none := by
  cases w with
  | none => simp [tl, oneRow, atL]
  | some w => rfl
theorem inSt_lo {b m : Int} {e : Option Int} (h : inSt (b, e) m = true) : b ≤ m := by
  cases e with
  | none => rw [inSt_none] at h; simpa using h
  | some e => rw [inSt_some] at h; simp at h; exact h.1
theorem chg_none {a b : Option Str} (h : tlp (chg a b) = none) : a = b := by
  unfold chg at h
  split at h
  · assumption
  · cases h
theorem chg_pair {a b : Option Str} {t : Tl} (h : tlp (chg a b) = some t) : t = [a, b] := by
  unfold chg at h
  split at h
  · cases h
  · exact (Option.some.inj h).symm
/-- one key's changes -/
theorem chFold_one (L : Str → List LRow) (key : Str) (f g : Int → Option Str) : ∀ (rs : List LRow) (lo : Int) (l : List LRow), Prp lo rs → 0 ≤ lo → Good l → (∀ r ∈ rs, okSt (rst r)) → (∀ m, lo ≤ m → wAt l m = f m) → (∀ m, lo ≤ m → atL rs m = tlp (chg (f m) (g m))) → (∀ m, m < lo → wAt l m = g m) →
    ∃ l', chFold (updL L key l) (rs.map fun r => (key, r)) = some (updL L key l') ∧ Good l' ∧ ∀ m, wAt l' m = g m
  | [], lo, l, _, h0, hg, _, hf, hr, hl => ⟨l, rfl, hg, fun m => by
    by_cases c : m < lo
    · exact hl m c
    · rw [hf m (by omega)]
      exact chg_none (hr m (by omega)).symm⟩
  | (b, e, t) :: rs, lo, l, hp, h0, hg, hok, hf, hr, hl => by
    have ok : okSt (b, e) := hok _ List.mem_cons_self
    have hb : lo ≤ b := hp.1
    have hin : ∀ m, inSt (b, e) m = true → t = [f m, g m] := fun m hm => by
      have := hr m (Int.le_trans hb (inSt_lo hm))
      rw [atL, if_pos (show inSt (rst (b, e, t)) m = true from hm)] at this
      exact chg_pair this.symm
    have hbin : inSt (b, e) b = true := by
      cases e with
      | none => rw [inSt_none]; simp
      | some e => rw [inSt_some]; have := (ok.en e rfl).1; simp; exact this
    have ht := hin b hbin
    subst ht
    have hfm : ∀ m, inSt (b, e) m = true → f m = f b ∧ g m = g b := fun m hm => by
      have := hin m hm
      simp at this
      exact ⟨this.1.symm, this.2.symm⟩
    have hcut : cutL l b e = oneRow b e (tl (f b)) := by
      refine (cutL_can0 hg.can b e).uniq (one_can b e (f b) ok) fun m => ?_
      rw [cutL_at, one_at]
      split
      · rename_i c
        rw [hg.fil.at, hf m (Int.le_trans hb (inSt_lo c)), (hfm m c).1]
      · rfl
    have hg' := hg.put (w := g b) ok
    have hw' : ∀ m, wAt (putL l b e (tl (g b))) m = if inSt (b, e) m = true then g b else wAt l m := fun m => putL_wAt hg.prp ok m
    rw [List.map_cons, chFold]
    simp only [chStep, updL_same, hcut, if_true, updL_upd]
    have below : ∀ m, m < b → wAt l m = g m := fun m hm => by
      by_cases c : m < lo
      · exact hl m c
      · rw [hf m (by omega)]
        refine chg_none ?_
        rw [← hr m (by omega)]
        have hpb : Prp b ((b, e, [f b, g b]) :: rs) := ⟨Int.le_refl _, hp.2⟩
        exact atL_lo hpb hm
    cases e with
    | none =>
      have e0 : rs = [] := hp.2
      subst e0
      refine ⟨_, rfl, hg', fun m => ?_⟩
      rw [hw']
      split
      · rename_i c
        exact (hfm m c).2.symm
      · rename_i c
        rw [inSt_none] at c
        exact below m (by simpa using c)
    | some e =>
      obtain ⟨p1, p2, p3⟩ := hp
      have q := (ok.en e rfl)
      refine chFold_one L key f g rs e _ p3 (by omega) hg' (fun r hr => hok r (List.mem_cons_of_mem _ hr)) (fun m hm => ?_) (fun m hm => ?_) fun m hm => ?_
      · rw [hw', if_neg (by rw [inSt_some]; simp; omega)]
        exact hf m (by omega)
      · have := hr m (by omega)
        rwa [atL, if_neg (show ¬ inSt (rst (b, some e, [f b, g b])) m = true by rw [rst, inSt_some]; simp; omega)] at this
      · rw [hw']
        split
        · rename_i c
          exact (hfm m c).2.symm
        · rename_i c
          rw [inSt_some] at c
          refine below m ?_
          simp at c
          omega
theorem chFold_keys (G : Str → List LRow) (Lr : Str → List LRow) (hG : ∀ k, Good (G k)) : ∀ (ks : List Str) (L : Str → List LRow), ks.Nodup → (∀ k, Good (L k)) → (∀ k ∈ ks, Prp 0 (Lr k)) → (∀ k ∈ ks, ∀ r ∈ Lr k, okSt (rst r)) → (∀ k ∈ ks, ∀ m, atL (Lr k) m = tlp (chg (wAt (L k) m) (wAt (G k) m))) →
    ∃ L', chFold L (flatK ks Lr) = some L' ∧ (∀ k ∈ ks, L' k = G k) ∧ ∀ k, k ∉ ks → L' k = L k
  | [], L, _, _, _, _, _ => ⟨L, rfl, by simp, fun _ _ => rfl⟩
  | key :: ks, L, nd, hL, hp, hok, ha => by
    obtain ⟨n1, n2⟩ := List.nodup_cons.mp nd
    obtain ⟨l', e1, e2, e3⟩ := chFold_one L key (fun m => wAt (L key) m) (fun m => wAt (G key) m) (Lr key) 0 (L key) (hp key List.mem_cons_self) (Int.le_refl _) (hL key) (hok key List.mem_cons_self) (fun _ _ => rfl) (fun m _ => ha key List.mem_cons_self m) (fun m hm => by rw [(hL key).low hm, (hG key).low hm])
    rw [updL_self] at e1
    have el : l' = G key := e2.ext (hG key) e3
    subst el
    obtain ⟨L', f1, f2, f3⟩ := chFold_keys G Lr hG ks (updL L key (G key)) n2 (fun k => by unfold updL; split; exact hG _; exact hL k) (fun k hk => hp k (List.mem_cons_of_mem _ hk)) (fun k hk => hok k (List.mem_cons_of_mem _ hk)) (fun k hk m => by
      have : k ≠ key := fun z => n1 (by rw [← z]; exact hk)
      unfold updL
      rw [if_neg this]
      exact ha k (List.mem_cons_of_mem _ hk) m)
    refine ⟨L', ?_, fun k hk => ?_, fun k hk => ?_⟩
    · rw [show flatK (key :: ks) Lr = (Lr key).map (fun r => (key, r)) ++ flatK ks Lr from rfl, chFold_app, e1]
      exact f1
    · rcases List.mem_cons.mp hk with rfl | q
      · rw [f3 k n1, updL_same]
      · exact f2 k q
    · have h1 : k ≠ key := fun z => hk (by simp [z])
      have h2 : k ∉ ks := fun z => hk (List.mem_cons_of_mem _ z)
      rw [f3 k h2]
      unfold updL
      rw [if_neg h1]
/-- changes from the lines L to the lines G, laid on L -/
theorem chFold_CL {L G : Str → List LRow} {R : List (Str × LRow)} (hL : ∀ k, Good (L k)) (hG : ∀ k, Good (G k)) (h : CL (fun k m => chg (wAt (L k) m) (wAt (G k) m)) R) (ok : ∀ p ∈ R, okSt (rst p.2)) : chFold L R = some G := by
  obtain ⟨ks, Lr, c, rfl⟩ := h
  obtain ⟨L', e1, e2, e3⟩ := chFold_keys G Lr hG ks L c.nd hL (fun k _ => (c.can k).prp) (fun k hk r hr => ok (k, r) (by
    unfold flatK
    exact List.mem_flatten.mpr ⟨_, List.mem_map.mpr ⟨k, hk, rfl⟩, List.mem_map.mpr ⟨r, hr, rfl⟩⟩)) (fun k hk m => c.at_ k hk m)
  rw [e1]
  congr 1
  funext k
  by_cases hk : k ∈ ks
  · exact e2 k hk
  · rw [e3 k hk]
    refine (hL k).ext (hG k) fun m => ?_
    have := c.out k hk m
    exact chg_none (by rw [this]; rfl)
end Tw

set_option Elab.async false
set_option linter.all false
set_option maxRecDepth 100000
set_option maxHeartbeats 4000000
namespace Tw
open PySem PySem.Spec PyProof.Rows L2
/-! ### dicts of the same keys in the same order -/
theorem valD_idx {k : Str} : ∀ {ks : List Str} {l : List D} {i : Nat}, ks.Nodup → ks[i]? = some k → valD (ks.map Sum.inr) l (.inr k) = l[i]?
  | [], l, i, _, h => by simp at h
  | a :: ks, [], i, _, _ => by simp [valD]
  | a :: ks, d :: l, 0, nd, h => by
    simp at h
    subst h
    simp [valD]
  | a :: ks, d :: l, i + 1, nd, h => by
    obtain ⟨n1, n2⟩ := List.nodup_cons.mp nd
    have hk : ks[i]? = some k := by simpa using h
    have c : a ≠ k := fun z => n1 (z ▸ List.mem_of_getElem? hk)
    have e : (Sum.inr a : Key) ≠ .inr k := fun z => c (by cases z; rfl)
    simp only [List.map_cons, valD, if_neg e, List.getElem?_cons_succ]
    exact valD_idx n2 hk
theorem dctEq_zip {W : Wd} {ks : List Str} {l l' : List D} (nd : ks.Nodup) (h1 : l.length = ks.length) (h2 : l'.length = ks.length) (e : ∀ (i : Nat) (d d' : D), l[i]? = some d → l'[i]? = some d' → (vw W d).eq (vw W d') = true) : dctEq W (ks.map Sum.inr) l (ks.map Sum.inr) l' = true := by
  unfold dctEq
  have z : ((ks.map Sum.inr : List Key).zip l).length = ((ks.map Sum.inr : List Key).zip l').length := by simp [h1, h2]
  rw [z, beq_self_eq_true, Bool.true_and, List.all_eq_true]
  intro p hp
  obtain ⟨i, hi⟩ := List.mem_iff_getElem?.mp hp
  rw [List.getElem?_zip_eq_some] at hi
  obtain ⟨e1, e2⟩ := hi
  rw [List.getElem?_map, Option.map_eq_some_iff] at e1
  obtain ⟨k, ek, ek2⟩ := e1
  rw [← ek2, valD_idx nd ek]
  have hl : i < l'.length := by
    rw [h2]
    exact (List.getElem?_eq_some_iff.mp ek).1
  rw [List.getElem?_eq_getElem hl]
  exact e i _ _ e2 (List.getElem?_eq_getElem hl)
end Tw

set_option Elab.async false
set_option linter.all false
set_option maxRecDepth 100000
set_option maxHeartbeats 4000000
namespace Tw
open PySem PySem.Spec PyProof.Rows L2
/-! ### xs.pop(), xs.pop(0) -/
def gPop (d : D) (ds : List D) : M D := fun S P _ => match d, ds with
  | .hnd n, [] => (match S.W[n]? with
    | some (.lst l) => ∃ y, l[l.length - 1]? = some y ∧ P y ⟨S.σ, S.W.set n (.lst l.dropLast)⟩
    | _ => False)
  | _, _ => False
def gPop0 (d : D) (ds : List D) : M D := fun S P _ => match d, ds with
  | .hnd n, [.int 0] => (match S.W[n]? with
    | some (.lst (y :: l)) => P y ⟨S.σ, S.W.set n (.lst l)⟩
    | _ => False)
  | _, _ => False
section
variable {X : Cx} {WE : WX}
theorem ma_pop : MtA X.K WE "list" rPop gPop := by
  intro B φ S σ H d ds x vs Q R r rs q
  obtain ⟨P, Xx, h1, h2, h3⟩ := q
  unfold gPop at h1
  split at h1
  · rename_i n
    split at h1
    · rename_i l hw
      obtain ⟨y, hy, h1⟩ := h1
      obtain ⟨a, xs, rfl, ha, hx, hr⟩ := hnd_lst R.w r hw
      obtain ⟨v, hv, rv⟩ := hr.get hy
      refine ⟨a, xs, v, rfl, rs.nil_inv, hx, by rw [hr.length]; exact hv, h2 _ _ _ _ _ _ h1 (Ext.refl _ _) (R.ext (Ext.refl _ _) (R.w.put (o := .lst l.dropLast) ha ⟨_, upd_same, ?_⟩)) rv⟩
      rw [List.dropLast_eq_take, List.dropLast_eq_take, hr.length]
      exact hr.take _
    · exact h1.elim
  · exact h1.elim
theorem ma_pop0 : MtA X.K WE "list" rPopAt gPop0 := by
  intro B φ S σ H d ds x vs Q R r rs q
  obtain ⟨P, Xx, h1, h2, h3⟩ := q
  unfold gPop0 at h1
  split at h1
  · rename_i n
    split at h1
    · rename_i y l hw
      obtain ⟨a, xs, rfl, ha, hx, hr⟩ := hnd_lst R.w r hw
      obtain ⟨v, rest, rfl, rv, rr⟩ := hr.cons_inv
      obtain ⟨u, rfl, ru⟩ := one_inv rs
      simp only [Rep] at ru
      subst ru
      refine ⟨a, v :: rest, 0, 0, v, rfl, rfl, hx, by decide, by decide, by simp [seqIndex?], rfl, h2 _ _ _ _ _ _ h1 (Ext.refl _ _) (R.ext (Ext.refl _ _) (R.w.put (o := .lst l) ha ⟨rest, upd_same, rr⟩)) rv⟩
    · exact h1.elim
  · exact h1.elim
end
/-! ### d.pop(k), d.pop(k, x), d.setdefault(k, x) -/
def dropD (ks : List Key) (l : List D) (k : Key) : List Key × List D := (((ks.zip l).filter fun p => decide (p.1 ≠ k)).map (·.1), ((ks.zip l).filter fun p => decide (p.1 ≠ k)).map (·.2))
theorem drop_rep {K : PySem.W.Frag} {B : Hp} {φ : List Addr} (k : Key) : ∀ {kvs : List (Key × V)} {l : List D}, Reps K B φ l (kvs.map (·.2)) → (dropK kvs k).map (·.1) = (dropD (kvs.map (·.1)) l k).1 ∧ Reps K B φ (dropD (kvs.map (·.1)) l k).2 ((dropK kvs k).map (·.2))
  | [], [], _ => ⟨rfl, Reps.nil⟩
  | [], _ :: _, h => by simp [Reps] at h
  | _ :: _, [], h => by simp [Reps] at h
  | (k0, v) :: kvs, d :: l, h => by
    obtain ⟨x, r, e, h1, h2⟩ := h.cons_inv
    simp only [List.map_cons, List.cons.injEq] at e
    obtain ⟨rfl, rfl⟩ := e
    obtain ⟨i1, i2⟩ := drop_rep k h2
    unfold dropK dropD at i1 i2 ⊢
    by_cases c : k0 = k
    · simp only [List.map_cons, List.zip_cons_cons, List.filter_cons, c, ne_eq, not_true_eq_false, decide_false, Bool.false_eq_true, if_false]
      exact ⟨i1, i2⟩
    · simp only [List.map_cons, List.zip_cons_cons, List.filter_cons, c, ne_eq, not_false_eq_true, decide_true, if_true]
      exact ⟨by rw [i1], Reps.cons h1 i2⟩
def popD (o k : D) (x : Option D) : M D := fun S P _ => match o with
  | .hnd n => (match S.W[n]?, toKey k with
    | some (.dct ks l), some kk => (match valD ks l kk with
      | some d => P d ⟨S.σ, S.W.set n (.dct (dropD ks l kk).1 (dropD ks l kk).2)⟩
      | none => (match x with
        | some x => P x S
        | none => False))
    | _, _ => False)
  | _ => False
def setdD (o k x : D) : M D := fun S P _ => match o with
  | .hnd n => (match S.W[n]?, toKey k with
    | some (.dct ks l), some kk => ks.length < sizeLine ∧ (match valD ks l kk with
      | some d => P d S
      | none => P x ⟨S.σ, S.W.set n (.dct (putD ks l kk x).1 (putD ks l kk x).2)⟩)
    | _, _ => False)
  | _ => False
def mPop1 (fo fk : M D) : M D := M.bind fo fun o S P X => (∃ ks l, rdD S.W o = some (ks, l)) ∧ (M.bind fk fun k => popD o k none) S P X
def mPop2 (fo fk fx : M D) : M D := M.bind fo fun o S P X => (∃ ks l, rdD S.W o = some (ks, l)) ∧ (M.bind fk fun k => M.bind fx fun x => popD o k (some x)) S P X
def mSetd (fo fk fx : M D) : M D := M.bind fo fun o S P X => (∃ ks l, rdD S.W o = some (ks, l)) ∧ (M.bind fk fun k => M.bind fx fun x => setdD o k x) S P X
theorem hnd_dct {K : PySem.W.Frag} {B H : Hp} {φ : List Addr} {W : Wd} {n : Nat} {x : V} {ks : List Key} {l : List D} (R : RelW K B φ W H) (r : Rep K B φ (.hnd n) x) (h : W[n]? = some (.dct ks l)) : ∃ a kvs, x = .ref a ∧ φ[n]? = some a ∧ H a = some (.dK kvs) ∧ kvs.map (·.1) = ks ∧ Reps K B φ l (kvs.map (·.2)) := by
  simp only [Rep] at r
  obtain ⟨a, ha, rfl⟩ := r
  obtain ⟨a', ha', kvs, hx, hk, hr⟩ := R.get h
  rw [ha] at ha'; cases ha'
  exact ⟨a, kvs, rfl, ha, hx, hk, hr⟩
section
variable {X : Cx} {WE : WX} {o e f : Expr} {fo fk fx : M D} {apos cpos : Pos}
theorem de_pop1 (ho : PE X o (tE X.K WE fo)) (he : PE X e (tE X.K WE fk)) (m1 : attributeBase o "pop" X.env (eval o X.env) = eval o X.env := by rfl)
    (m2 : ((backTo cpos (starEach [e] X.env)).all (fun x => !x.1) && (backToKw cpos (keywordEach [] X.env)).all (fun x => x.1.isSome)
    && decide (([e] : List Expr).length + ([] : List Keyword).length + (if ([] : List Keyword).isEmpty then 0 else 1) < 30)) = true := by rfl)
    (m3 : (apos.endLine == cpos.line) = true := by rfl) (m4 : backTo cpos (starEach [e] X.env) = [(false, eval e X.env)] := by rfl) :
    PE X (.Call (.Attribute o "pop" apos) [e] [] cpos) (tE X.K WE (mPop1 fo fk)) :=
  PE.weak (pe_dpop1 ho he ⟨m1, m2, m3, m4⟩) fun σ H Q h => by
    obtain ⟨B, φ, S, R, run⟩ := h
    refine ⟨B, φ, S, R, run.bind.imp ?_⟩
    rintro x H1 ⟨d, B1, φ1, S1, e1, R1, r1, P, Xx, ⟨⟨ks, l, hd⟩, h1⟩, h2, h3⟩
    obtain ⟨a, kvs, rfl, hk, rfl, hr⟩ := rdD_ok R1.w r1 hd
    refine ⟨a, rfl, .inl ⟨kvs, hk⟩, B1, φ1, S1, R1, Run.imp (Run.bind ⟨P, Xx, h1, h2, h3⟩) ?_⟩
    rintro y H2 ⟨dk, B2, φ2, S2, e2, R2, r2, P3, X3, g1, g2, g3⟩
    unfold popD at g1
    split at g1
    · rename_i n
      split at g1
      · rename_i ks3 l3 kk hw hkk
        obtain ⟨a3, kvs3, ea, ha3, hH3, rfl, hr3⟩ := hnd_dct R2.w (r1.mono e2 _ _) hw
        cases ea
        obtain rfl := toKey_ok r2 hkk
        rcases valV_val kk hr3 with ⟨v1, v2⟩ | ⟨dd, v, v1, v2, rv⟩
        · rw [v1] at g1
          exact g1.elim
        · rw [v1] at g1
          obtain ⟨k1, k2⟩ := drop_rep kk hr3
          exact ⟨kvs3, kk, v, hH3, rfl, v2, g2 _ _ _ _ _ _ g1 (Ext.refl _ _) (R2.ext (Ext.refl _ _) (R2.w.put (o := .dct _ _) ha3 ⟨_, upd_same, k1, k2⟩)) rv⟩
      · exact g1.elim
    · exact g1.elim
theorem de_pop2 (ho : PE X o (tE X.K WE fo)) (he : PE X e (tE X.K WE fk)) (hf : PE X f (tE X.K WE fx)) (m1 : attributeBase o "pop" X.env (eval o X.env) = eval o X.env := by rfl)
    (m2 : ((backTo cpos (starEach [e, f] X.env)).all (fun x => !x.1) && (backToKw cpos (keywordEach [] X.env)).all (fun x => x.1.isSome)
    && decide (([e, f] : List Expr).length + ([] : List Keyword).length + (if ([] : List Keyword).isEmpty then 0 else 1) < 30)) = true := by rfl)
    (m3 : (apos.endLine == cpos.line) = true := by rfl) (m4 : backTo cpos (starEach [e, f] X.env) = [(false, eval e X.env), (false, eval f X.env)] := by rfl) :
    PE X (.Call (.Attribute o "pop" apos) [e, f] [] cpos) (tE X.K WE (mPop2 fo fk fx)) :=
  PE.weak (pe_dpop2 ho he hf ⟨m1, m2, m3, m4⟩) fun σ H Q h => by
    obtain ⟨B, φ, S, R, run⟩ := h
    refine ⟨B, φ, S, R, run.bind.imp ?_⟩
    rintro x H1 ⟨d, B1, φ1, S1, e1, R1, r1, P, Xx, ⟨⟨ks, l, hd⟩, h1⟩, h2, h3⟩
    obtain ⟨a, kvs, rfl, hk, rfl, hr⟩ := rdD_ok R1.w r1 hd
    refine ⟨a, rfl, .inl ⟨kvs, hk⟩, B1, φ1, S1, R1, Run.imp (Run.bind ⟨P, Xx, h1, h2, h3⟩) ?_⟩
    rintro y H2 ⟨dk, B2, φ2, S2, e2, R2, r2, run2⟩
    refine ⟨B2, φ2, S2, R2, run2.bind.imp ?_⟩
    rintro z H3 ⟨dx, B3, φ3, S3, e3, R3, r3, P3, X3, g1, g2, g3⟩
    unfold popD at g1
    split at g1
    · rename_i n
      split at g1
      · rename_i ks3 l3 kk hw hkk
        obtain ⟨a3, kvs3, ea, ha3, hH3, rfl, hr3⟩ := hnd_dct R3.w ((r1.mono e2 _ _).mono e3 _ _) hw
        cases ea
        obtain rfl := toKey_ok (r2.mono e3 _ _) hkk
        refine ⟨kvs3, kk, hH3, rfl, fun v hv => ?_, fun hv => ?_⟩
        · rcases valV_val kk hr3 with ⟨v1, v2⟩ | ⟨dd, v', v1, v2, rv⟩
          · rw [v2] at hv; cases hv
          · rw [v2] at hv
            cases hv
            rw [v1] at g1
            obtain ⟨k1, k2⟩ := drop_rep kk hr3
            exact g2 _ _ _ _ _ _ g1 (Ext.refl _ _) (R3.ext (Ext.refl _ _) (R3.w.put (o := .dct _ _) ha3 ⟨_, upd_same, k1, k2⟩)) rv
        · rcases valV_val kk hr3 with ⟨v1, v2⟩ | ⟨dd, v', v1, v2, rv⟩
          · rw [v1] at g1
            exact Run.fin g2 g1 R3 r3
          · rw [v2] at hv; cases hv
      · exact g1.elim
    · exact g1.elim
theorem de_setd (ho : PE X o (tE X.K WE fo)) (he : PE X e (tE X.K WE fk)) (hf : PE X f (tE X.K WE fx)) (m1 : attributeBase o "setdefault" X.env (eval o X.env) = eval o X.env := by rfl)
    (m2 : ((backTo cpos (starEach [e, f] X.env)).all (fun x => !x.1) && (backToKw cpos (keywordEach [] X.env)).all (fun x => x.1.isSome)
    && decide (([e, f] : List Expr).length + ([] : List Keyword).length + (if ([] : List Keyword).isEmpty then 0 else 1) < 30)) = true := by rfl)
    (m3 : (apos.endLine == cpos.line) = true := by rfl) (m4 : backTo cpos (starEach [e, f] X.env) = [(false, eval e X.env), (false, eval f X.env)] := by rfl) :
    PE X (.Call (.Attribute o "setdefault" apos) [e, f] [] cpos) (tE X.K WE (mSetd fo fk fx)) :=
  PE.weak (pe_dsetd ho he hf ⟨m1, m2, m3, m4⟩) fun σ H Q h => by
    obtain ⟨B, φ, S, R, run⟩ := h
    refine ⟨B, φ, S, R, run.bind.imp ?_⟩
    rintro x H1 ⟨d, B1, φ1, S1, e1, R1, r1, P, Xx, ⟨⟨ks, l, hd⟩, h1⟩, h2, h3⟩
    obtain ⟨a, kvs, rfl, hk, rfl, hr⟩ := rdD_ok R1.w r1 hd
    refine ⟨a, rfl, .inl ⟨kvs, hk⟩, B1, φ1, S1, R1, Run.imp (Run.bind ⟨P, Xx, h1, h2, h3⟩) ?_⟩
    rintro y H2 ⟨dk, B2, φ2, S2, e2, R2, r2, run2⟩
    refine ⟨B2, φ2, S2, R2, run2.bind.imp ?_⟩
    rintro z H3 ⟨dx, B3, φ3, S3, e3, R3, r3, P3, X3, g1, g2, g3⟩
    unfold setdD at g1
    split at g1
    · rename_i n
      split at g1
      · rename_i ks3 l3 kk hw hkk
        obtain ⟨hz, g1⟩ := g1
        obtain ⟨a3, kvs3, ea, ha3, hH3, rfl, hr3⟩ := hnd_dct R3.w ((r1.mono e2 _ _).mono e3 _ _) hw
        cases ea
        obtain rfl := toKey_ok (r2.mono e3 _ _) hkk
        rw [List.length_map] at hz
        refine ⟨kvs3, kk, hH3, rfl, hz, fun v hv => ?_, fun hv => ?_⟩
        · rcases valV_val kk hr3 with ⟨v1, v2⟩ | ⟨dd, v', v1, v2, rv⟩
          · rw [v2] at hv; cases hv
          · rw [v2] at hv
            cases hv
            rw [v1] at g1
            exact Run.fin g2 g1 R3 rv
        · rcases valV_val kk hr3 with ⟨v1, v2⟩ | ⟨dd, v', v1, v2, rv⟩
          · rw [v1] at g1
            obtain ⟨p1, p2⟩ := put_rep (k := kk) r3 hr3
            exact g2 _ _ _ _ _ _ g1 (Ext.refl _ _) (R3.ext (Ext.refl _ _) (R3.w.put (o := .dct _ _) ha3 ⟨_, upd_same, p1, p2⟩)) r3
          · rw [v2] at hv; cases hv
      · exact g1.elim
    · exact g1.elim
end
/-! ### dict(list of pairs) -/
def bDictP (h : Bool) (ds : List D) : M D := fun S P X => match ds with
  | [d] => ∃ ps : List (Key × D), rdL S.W d = some (ps.map fun p => .tup [keyD p.1, p.2]) ∧ newD h (mrg ps).1 (mrg ps).2 S P X
  | _ => False
theorem reps_pairs {K : PySem.W.Frag} {B H : Hp} {φ : List Addr} {W : Wd} (R : RelW K B φ W H) : ∀ {ps : List (Key × D)} {xs : List V}, Reps K B φ (ps.map fun p => .tup [keyD p.1, p.2]) xs →
    ∃ (as : List Addr) (kvs : List (Key × V)), xs = as.map V.ref ∧ Paired (fun p kv => SqT K H p [kV kv.1, kv.2]) as kvs ∧ kvs.map (·.1) = ps.map (·.1) ∧ Reps K B φ (ps.map (·.2)) (kvs.map (·.2))
  | [], xs, h => ⟨[], [], h.nil_inv, .nil, rfl, Reps.nil⟩
  | p :: ps, xs, h => by
    obtain ⟨x, r, rfl, h1, h2⟩ := h.cons_inv
    obtain ⟨as, kvs, rfl, hp, hk, hr⟩ := reps_pairs R h2
    simp only [Rep] at h1
    obtain ⟨q, ys, rfl, hq, hy⟩ := h1
    obtain ⟨v, u, rfl, r1, r2⟩ := two_inv hy
    have e : v = kV p.1 := by
      cases e1 : p.1 with
      | inl i => rw [e1] at r1; simpa only [keyD, Rep, kV] using r1
      | inr s => rw [e1] at r1; simpa only [keyD, Rep, kV] using r1
    subst e
    exact ⟨q :: as, (p.1, u) :: kvs, rfl, .cons (R.sqT hq) hp, by simp [hk], Reps.cons r2 hr⟩
theorem ca_dictP {X : Cx} {WE : WX} (h : Bool) : CallA X.K WE (fun xs H Q => ∃ (a : Addr) (ps : List Addr) (kvs : List (Key × V)), xs = [.ref a] ∧ SqL X.K H a (ps.map V.ref) ∧ Paired (fun p kv => SqT X.K H p [kV kv.1, kv.2]) ps kvs ∧
    ∀ p, H p = none → Q (.ref p) (upd H p (.dK (mergeK [] kvs)))) (bDictP h) := by
  intro B φ S σ H ds vs Q R r q
  obtain ⟨P, Xx, h1, h2, h3⟩ := q
  unfold bDictP at h1
  split at h1
  · rename_i d
    obtain ⟨ps, hd, h1⟩ := h1
    obtain ⟨v, rfl, rv⟩ := one_inv r
    obtain ⟨a, xs, rfl, hs, hr⟩ := rdL_ok R.w rv hd
    obtain ⟨as, kvs, rfl, hp, hk, hr2⟩ := reps_pairs R.w hr
    obtain ⟨m1, m2⟩ := mrg_rep (acc := []) (ak := ([], [])) hk hr2 rfl Reps.nil
    exact ⟨a, as, kvs, rfl, hs, hp, fun p hp0 => newD_ok R ⟨P, Xx, h1, h2, h3⟩ m1 m2 hp0⟩
  · exact h1.elim
theorem mrg_nodup {α : Type} (f : α → Str) (g : α → D) {l : List α} (nd : (l.map f).Nodup) : mrg (l.map fun a => (Sum.inr (f a), g a)) = ((l.map f).map Sum.inr, l.map g) := by
  revert nd
  refine snoc_ind (p := fun l => (l.map f).Nodup → mrg (l.map fun a => (Sum.inr (f a), g a)) = ((l.map f).map Sum.inr, l.map g)) (fun _ => rfl) (fun l a ih nd => ?_) l
  rw [List.map_append, List.nodup_append] at nd
  obtain ⟨n1, _, n3⟩ := nd
  unfold mrg at ih ⊢
  rw [List.map_append, List.foldl_append, ih n1]
  simp only [List.map_cons, List.map_nil, List.foldl_cons, List.foldl_nil]
  rw [putD_new (fun z => n3 _ z (f a) (by simp) rfl)]
  simp
/-! ### try: .. except X: (no name) -/
def sTry1 (xs : List Str) (body h : MS) : MS := fun S E => body S { E with ex := fun x S1 => x.cls ∈ xs ∧ h S1 { E with ex := fun _ _ => False } }
section
variable {X : Cx} {WE : WX} {pos : Pos}
theorem d_try1 {y : Str} {body suite : List Stmt} {b₀ : Stmt} {np pos' : Pos} {xs : List Str} {fb fh : MS} (hs : X.stack = X.env :: X.outer) (hf : X.env.frame = some X.env.locals)
    (hy : X.mg y = some (.ref (He.ga X.K y))) (tk : Takes X WE) (hxs : ∀ x ∈ xs, PySem.W.exmOne X.K (.ref (He.ga X.K x)) (.ref (He.ga X.K y)) = some true)
    (hb : ∀ (W : WX) (pn : List (Addr × Obj)) (xe : Value → Shared → Prop), Takes (X.tr pn xe) W → PassesOwn (model X.prog X.w) X.A X.env xe → PSs (X.tr pn xe) body (tS X.K W fb))
    (hsu : ∀ (a : Addr) (oe : Obj) (pn : List (Addr × Obj)), PSs (X.suite a ((a, oe) :: pn)) (b₀ :: suite) (tS X.K (fun _ _ _ _ => False) fh))
    (hg : Gl X y := by rfl) (hdb : (y == ("__debug__" : Str)) = false := by decide) :
    PS X (.Try body [.ExceptHandler (some (.Name y np)) none (b₀ :: suite) pos'] [] [] pos) (tS X.K WE (sTry1 xs fb fh)) := by
  refine PS.weak (ps_try_only (ts := fun a cls d D σ H => tS X.K (fun _ _ _ _ => False) fh D σ H) (Wout := WE) hs hf ⟨hg, hdb, .inl hy⟩ tk hb
    (fun a oe cls d pn hz hf => hsu a oe pn)) fun DD σ H h => ?_
  obtain ⟨B, φ, S, R, E, q, hn, hr, hbk, hct, hx⟩ := h
  refine ⟨B, φ, S, R, _, q, hn, hr, hbk, hct, ?_⟩
  rintro x S' σ' cls d B' φ' H' ⟨hxm, ha⟩ e' R' rx
  obtain ⟨rc, rd⟩ := rx
  subst rc
  refine ⟨true, hxs _ hxm, fun _ a na => ⟨B', φ', S', R', _, ha, ?_, ?_, ?_, ?_, ?_⟩, fun z => by cases z⟩
  · intro S2 σ2 B2 φ2 H2 a1 a2 a3
    exact hn _ _ B2 φ2 H2 a1 (e'.trans a2) a3
  · intro d2 S2 σ2 v B2 φ2 H2 a1 a2 a3 a4
    exact hr _ _ _ _ B2 φ2 H2 a1 (e'.trans a2) a3 a4
  · intro S2 σ2 B2 φ2 H2 a1 a2 a3
    exact hbk _ _ B2 φ2 H2 a1 (e'.trans a2) a3
  · intro S2 σ2 B2 φ2 H2 a1 a2 a3
    exact hct _ _ B2 φ2 H2 a1 (e'.trans a2) a3
  · intro x2 S2 σ2 cls2 d2 B2 φ2 H2 a1
    exact a1.elim
end
end Tw

set_option Elab.async false
set_option linter.all false
set_option maxRecDepth 100000
set_option maxHeartbeats 4000000
namespace Tw
open PySem PySem.Spec PyProof.Rows L2
/-! ### tables of lines at a knowing, their keys in any order -/
theorem dropD_strs (f : Str → D) (key : Str) : ∀ ks : List Str, dropD (ks.map Sum.inr) (ks.map f) (.inr key) = ((ks.filter fun k => decide (k ≠ key)).map Sum.inr, (ks.filter fun k => decide (k ≠ key)).map f)
  | [] => rfl
  | a :: ks => by
    have ih := dropD_strs f key ks
    unfold dropD at ih ⊢
    simp only [Prod.mk.injEq] at ih
    by_cases c : a = key
    · subst c
      simp only [List.map_cons, List.zip_cons_cons, List.filter_cons, ne_eq, not_true_eq_false, decide_false, Bool.false_eq_true, if_false]
      exact Prod.ext ih.1 ih.2
    · have e : ¬ (Sum.inr a : Key) = .inr key := fun z => c (by cases z; rfl)
      simp only [List.map_cons, List.zip_cons_cons, List.filter_cons, ne_eq, c, e, not_false_eq_true, decide_true, if_true]
      exact Prod.ext (congrArg (fun z => Sum.inr a :: z) ih.1) (congrArg (fun z => f a :: z) ih.2)
def TabAt (W : Wd) (L : Str → List LRow) (z : Nat) (d : Nat) : Prop := ∃ ks : List Str, ks.Nodup ∧ (∀ k, k ∈ ks ↔ L k ≠ []) ∧ ks.length ≤ z ∧ W[d]? = some (.dct (ks.map Sum.inr) (ks.map fun k => .lst ((L k).map rowD)))
theorem TabAt.fr {W W' : Wd} {fp : List Nat} {L : Str → List LRow} {z d : Nat} (h : TabAt W L z d) (f : Fr W fp W') (hd : d ∉ fp) : TabAt W' L z d := by
  obtain ⟨ks, h1, h2, h3, h4⟩ := h
  exact ⟨ks, h1, h2, h3, by rw [f.2 d (List.getElem?_eq_some_iff.mp h4).1 hd]; exact h4⟩
theorem TabAt.lt {W : Wd} {L : Str → List LRow} {z d : Nat} (h : TabAt W L z d) : d < W.length := by
  obtain ⟨ks, _, _, _, h4⟩ := h
  exact (List.getElem?_eq_some_iff.mp h4).1
/-- two tables of the same lines are equal -/
theorem TabAt.eq {W : Wd} {L : Str → List LRow} {z z' d d' : Nat} {neg : Bool} {σ : List (Option D)} {P : D → AS → Prop} {X : XA} (h : TabAt W L z d) (h' : TabAt W L z' d') (q : P (.bl (negb neg true)) ⟨σ, W⟩) : dDD neg (.hnd d) (.hnd d') ⟨σ, W⟩ P X := by
  obtain ⟨ks, h1, h2, h3, h4⟩ := h
  obtain ⟨ks', g1, g2, g3, g4⟩ := h'
  have lay2 : ∀ (ks : List Str), ∀ x ∈ ks.map (fun k => D.lst ((L k).map rowD)), (vw W x).lay 55 = true := fun ks x hx => by
    obtain ⟨k, _, rfl⟩ := List.mem_map.mp hx
    rw [vw_lst, lay_lst]
    exact lays_rows 53 _
  refine DD_go (rdD_hnd h4) (rdD_hnd g4) (lay2 _) (lay2 _) ?_
  rw [dctEq_strs h1 (fun k => by rw [h2, g2]) g1 fun k _ => ?_]
  · exact q
  · rw [vw_lst, de_lst_lst, eqs_rows]
    simp
theorem TabAt.of_keys {W : Wd} {ts : List Tel} {k d z : Nat} (h : W[d]? = some (.dct ((keysAt ts k).map Sum.inr) ((keysAt ts k).map fun key => .lst ((lineOf (ts.take k) key).map rowD)))) (hz : ts.length ≤ z) : TabAt W (fun key => lineOf (ts.take k) key) z d :=
  ⟨keysAt ts k, keysAt_nodup ts k, fun key => ⟨fun c => by have := (List.mem_filter.mp c).2; simpa using this, fun c => Classical.byContradiction fun q => c (line_none q)⟩, Nat.le_trans (keysAt_len ts k) hz, h⟩
theorem pop_go {n : Nat} {k d : D} {x : Option D} {ks : List Key} {l : List D} {kk : Key} {S : AS} {P : D → AS → Prop} {X : XA} (hw : S.W[n]? = some (.dct ks l)) (hk : toKey k = some kk) (hv : valD ks l kk = some d) (q : P d ⟨S.σ, S.W.set n (.dct (dropD ks l kk).1 (dropD ks l kk).2)⟩) : popD (.hnd n) k x S P X := by
  show (match S.W[n]?, toKey k with
    | some (.dct ks l), some kk => (match valD ks l kk with
      | some d => P d ⟨S.σ, S.W.set n (.dct (dropD ks l kk).1 (dropD ks l kk).2)⟩
      | none => (match x with
        | some x => P x S
        | none => False))
    | _, _ => False)
  rw [hw, hk]
  simp only
  rw [hv]
  exact q
theorem pop_none {n : Nat} {k x : D} {ks : List Key} {l : List D} {kk : Key} {S : AS} {P : D → AS → Prop} {X : XA} (hw : S.W[n]? = some (.dct ks l)) (hk : toKey k = some kk) (hv : valD ks l kk = none) (q : P x S) : popD (.hnd n) k (some x) S P X := by
  show (match S.W[n]?, toKey k with
    | some (.dct ks l), some kk => (match valD ks l kk with
      | some d => P d ⟨S.σ, S.W.set n (.dct (dropD ks l kk).1 (dropD ks l kk).2)⟩
      | none => (match some x with
        | some x => P x S
        | none => False))
    | _, _ => False)
  rw [hw, hk]
  simp only
  rw [hv]
  exact q
/-- changes to the lines that are there, not laid on them -/
theorem chFold_bad {L G : Str → List LRow} {R : List (Str × LRow)} (hG : ∀ k, Good (G k)) (h : CL (fun k m => chg (wAt (L k) m) (wAt (G k) m)) R) (hn : R ≠ []) (ok : ∀ p ∈ R, okSt (rst p.2)) : chFold G R = none := by
  cases R with
  | nil => exact absurd rfl hn
  | cons p R =>
    obtain ⟨q, e1, e2⟩ := h.dbl (p := p) List.mem_cons_self
    have okp := ok p List.mem_cons_self
    obtain ⟨key, b, e, t⟩ := p
    obtain ⟨o1, o2⟩ := q
    simp only at e1 e2
    subst e1
    have hne : o1 ≠ o2 ∧ wAt (G key) b = o2 := by
      unfold chg at e2
      split at e2
      · cases e2
      · rename_i c
        cases e2
        exact ⟨c, rfl⟩
    rw [chFold]
    simp only [chStep]
    rw [if_neg]
    intro z
    have hin : inSt (b, e) b = true := by
      cases e with
      | none => rw [inSt_none]; simp
      | some e => rw [inSt_some]; have := (okp.en e rfl).1; simp; exact this
    have := congrArg (fun l => atL l b) z
    simp only [cutL_at, one_at, hin, if_true] at this
    rw [(hG key).fil.at, hne.2] at this
    exact hne.1 (tl_inj this).symm
theorem TabAt.small {W : Wd} {ts : List Tel} {z d : Nat} (h : TabAt W (fun key => lineOf ts key) z d) : TabAt W (fun key => lineOf ts key) ts.length d := by
  obtain ⟨ks, h1, h2, h3, h4⟩ := h
  refine ⟨ks, h1, h2, Nat.le_trans (sub_len h1 fun x hx => ?_) (keysOf_len ts), h4⟩
  exact Classical.byContradiction fun q => (h2 x).mp hx (lineOf_other q)
end Tw

set_option Elab.async false
set_option linter.all false
set_option maxRecDepth 100000
set_option maxHeartbeats 4000000
namespace Tw
open PySem PySem.Spec PyProof.Rows L2
/-! ### where two have a worth -/
def bth (a b : Option Str) : Option P2 := if a = none ∨ b = none then none else some (a, b)
def both2 : Tl → Bool
  | [a, b] => a.isSome && b.isSome
  | _ => false
theorem both2_two (a b : Option Str) : (two a b).bind (fun t => if both2 t = true then some t else none) = tlp (bth a b) := by
  cases a <;> cases b <;> simp [two, both2, bth, tlp]
theorem bth_none_l (b : Option Str) : bth none b = none := by simp [bth]
theorem bth_none_r (a : Option Str) : bth a none = none := by simp [bth]
theorem bth_sw (a b : Option Str) : (bth a b).map swp = bth b a := by
  cases a <;> cases b <;> simp [bth, swp]
theorem keysAt_srt (ts : List Tel) (k : Nat) : (keysAt ts k).Pairwise fun a b => sLe a b = true := (srtS_sorted _).filter _
theorem flatK_snoc_len {ks : List Str} {L : Str → List LRow} {g : Str → Nat} (h : ∀ k ∈ ks, (L k).length ≤ g k) : (flatK ks L).length ≤ (ks.map g).sum := by
  rw [flatK_len]
  exact sum_le h
def unB : Option Tl → Option Tl
  | some [a, b] => tlp (bth a b)
  | _ => none
theorem unB_two (a b : Option Str) : unB (two a b) = tlp (bth a b) := by
  unfold two
  split
  · rename_i h
    rw [h.1, h.2]
    rfl
  · rfl
theorem bth_steps {ts1 ts2 : List Tel} {key : Str} {ys : List Int} (ok1 : ∀ t ∈ ts1, okTel t) (ok2 : ∀ t ∈ ts2, okTel t) (h : ∀ x, isBnd ts1 key x ∨ isBnd ts2 key x → x ∈ ys) : Steps ys (fun m => tlp (bth (told ts1 key m) (told ts2 key m))) := by
  have b1 := lineOf_bnd (k := key) ok1
  have b2 := lineOf_bnd (k := key) ok2
  obtain ⟨a, b⟩ := f2_steps (l1 := lineOf ts1 key) (l2 := lineOf ts2 key) (ys := ys) (fun r hr => ⟨h _ (.inl (b1 r hr).1), fun e he => h _ (.inl ((b1 r hr).2 e he))⟩) fun r hr => ⟨h _ (.inr (b2 r hr).1), fun e he => h _ (.inr ((b2 r hr).2 e he))⟩
  refine ⟨fun m hm => ?_, fun x hx m hxm hn => ?_⟩
  · have := congrArg unB (a m hm)
    rwa [f2, unB_two, lineOf_wAt ok1, lineOf_wAt ok2] at this
  · have := congrArg unB (b x hx m hxm hn)
    rwa [f2, f2, unB_two, unB_two, lineOf_wAt ok1, lineOf_wAt ok2, lineOf_wAt ok1, lineOf_wAt ok2] at this
end Tw

set_option Elab.async false
set_option linter.all false
set_option maxRecDepth 100000
set_option maxHeartbeats 4000000
namespace Tw
open PySem PySem.Spec PyProof.Rows L2
/-! ### several clauses `except y as n`, one name -/
def wAsMany (K : PySem.W.Frag) (i : Nat) (Wout : WX) (D : Ends) : List (Value × (Addr → Value → Option Addr → TS)) → WX
  | [] => Wout
  | (c, ts) :: r => fun cls d σ H => ∃ b, PySem.W.exmOne K cls c = some b ∧
      (b = true → ∀ a, H a = none → ts a cls d { nx := fun σ' H' => D.nx (σ'.set i none) H', rt := D.rt, bk := fun σ' H' => D.bk (σ'.set i none) H', ct := fun σ' H' => D.ct (σ'.set i none) H' } (σ.set i (some (.ref a))) H) ∧
      (b = false → wAsMany K i Wout D r cls d σ H)
inductive HdsAs (X : Cx) (n : Str) : List ExceptHandler → List (Value × (Addr → Value → Option Addr → TS)) → Prop
  | nil : HdsAs X n [] []
  | cons {x : Str} {c : Value} {ts : Addr → Value → Option Addr → TS} {b₀ : Stmt} {suite : List Stmt} {np pos' : Pos} {hds : List ExceptHandler} {l : List (Value × (Addr → Value → Option Addr → TS))} (hc : Names X x c)
      (hsu : ∀ (a : Addr) (oe : Obj) (cls : Value) (d : Option Addr) (pn : List (Addr × Obj)), Zc cls d oe → (∃ vs, oe.data = .fields vs) → PSs (X.suite a ((a, oe) :: pn)) (b₀ :: suite) (ts a cls d)) (r : HdsAs X n hds l) :
      HdsAs X n (.ExceptHandler (some (.Name x np)) (some n) (b₀ :: suite) pos' :: hds) ((c, ts) :: l)
section
variable {X : Cx} {n : Str} {i : Nat} {body : List Stmt} {h₀ : ExceptHandler} {hds : List ExceptHandler} {l : List (Value × (Addr → Value → Option Addr → TS))} {pos : Pos} {tb : WX → TS} {Wout : WX}
theorem ps_try_asMany (hs : X.stack = X.env :: X.outer) (hf : X.env.frame = some X.env.locals) (hN : X.N.Nodup) (hi : X.N[i]? = some n) (hln : X.env.kindOf n = some .local) (tk : Takes X Wout)
    (hb : ∀ (W : WX) (pn : List (Addr × Obj)) (xe : Value → Shared → Prop), Takes (X.tr pn xe) W → PassesOwn (model X.prog X.w) X.A X.env xe → PSs (X.tr pn xe) body (tb W))
    (hh : HdsAs X n (h₀ :: hds) l) : PS X (.Try body (h₀ :: hds) [] [] pos) (fun D σ H => tb (wAsMany X.K i Wout D l) D σ H) := by
  refine ⟨fun pins s σ H D I h => ?_⟩
  have ok := I.ok
  have hfr : X.A.frames = some (X.env :: X.outer) := by rw [ok.frames, hs]
  have hloc : Loc X.env.scope n := .inl hln
  refine wpAny_Try_except ?_
  refine wpAny_mono ((hb (wAsMany X.K i Wout D l) (X.pn ++ pins) (fun e s₁ => wpAny (model X.prog X.w) X.A (noteFrame e X.env) (fun _ s₂ => wpAny (model X.prog X.w) X.A (setFlight e none) (fun _ s₃ =>
    wpAny (model X.prog X.w) X.A (handleBy e X.env (h₀ :: hds)) (SP X pins D) X.xe s₃) X.xe s₂) X.xe s₁) (fun u s' xx => ?_) PassesOwn.looking).run [] s σ H D (I.toTry _) h) (fun f s1 hsp => ?_) (fun e s1 he => he)
  · -- the catch
    obtain ⟨a, B, sI, pins', σ', H', cls, d, rfl, J', nb, up, sky, na, os, ag, w⟩ := xx
    have J : Inv X pins σ' H' sI := J'.ofTry ok
    have sky' : Sky B (X.env :: X.outer) a (Zc cls d) X.env.locals s'.heap := by rw [← hs]; exact sky
    show wpAny (model X.prog X.w) X.A (noteFrame (.ref a) X.env) _ _ _
    refine Sky.land Zc.steady hfr hf sky' fun h3 fl3 up3 => ?_
    have J3 : Inv X pins σ' H' { s' with heap := h3 } := J.landed nb fl3.1 (up.trans up3) os ag
    obtain ⟨oe3, vs3, he3, hz3, hd3⟩ := fl3.there
    have notFr : ∀ {h : Heap} {o : Obj} {vs : Array Value}, h.FunFrames B (X.env :: X.outer) → h.get? a = some o → o.data = .fields vs → a ∉ frs (X.env :: X.outer) := fun {h o vs} ff e dd hm => by
      obtain ⟨_, o', e', hnf⟩ := ff.mem hm
      rw [e] at e'; cases e'
      exact hnf _ dd
    have nfr := notFr fl3.2.2.1 he3 hd3
    have nL : a ≠ X.env.locals := fun z => nfr (List.mem_filterMap.mpr ⟨X.env, List.mem_cons_self, by rw [hf, z]⟩)
    have nF : a ∉ X.fs := fun hm => by
      obtain ⟨e, he, q⟩ := List.mem_filterMap.mp hm
      exact nfr (List.mem_filterMap.mpr ⟨e, List.mem_cons_of_mem _ he, q⟩)
    have S3 := J3.suite he3 hd3 na nL nF
    have go : ∀ {hds' : List ExceptHandler} {l' : List (Value × (Addr → Value → Option Addr → TS))}, HdsAs X n hds' l' → wAsMany X.K i Wout D l' cls d σ' H' →
        wpAny (model X.prog X.w) X.A (handleBy (.ref a) X.env hds') (SP X pins D) X.xe { s' with heap := h3 } := by
      intro hds' l' hk
      induction hk with
      | nil =>
        intro w
        refine wpAny_handleBy_nil ?_
        obtain ⟨k1, k2, k3, oe, vs, T, oT, ts', he, hz, hd, h1, hr⟩ := id fl3
        unfold PySem.passOn
        refine wpAny_bind (wpAny_field he hd h1 ?_)
        rw [if_neg (show ¬ ((Value.ref T == Value.none) = true) from by simp)]
        have fin : wpAny (model X.prog X.w) X.A (setFlight (.ref a) X.env.frame) (fun _ s4 => wpAny (model X.prog X.w) X.A (throw (.ref a) : Sem Flow) (SP X pins D) X.xe s4) X.xe { s' with heap := h3 } := by
          rw [hf]
          refine HandSPX.setFlight_upZ fl3 fun h4 hh4 up4 => wpAny_throw (tk _ _ ?_)
          exact ⟨a, B, sI, pins, σ', H', cls, d, rfl, J, nb, (up.trans up3).trans up4, .inr (.inr (by rw [hs]; exact hh4)), na, os, ag, w⟩
        first
          | exact wpAny_bind (wpAny_pure (wpAny_bind fin))
          | exact wpAny_bind fin
      | @cons x c ts b₀ suite np pos' hds2 l2 hc hsu r ih =>
        intro w
        obtain ⟨b, hb1, hyes, hno⟩ := w
        refine wpAny_handleBy_cons (codeAny_handlers_test ?_) (by intro q; cases q)
        have LT : PySem.W.Looks (model X.prog X.w) h3 (typeOf (.ref a)) cls := fun A Q E s k q => wpAny_typeOf_ref (k _ _ he3) (by rw [hz3.1]; exact q)
        have LM := PySem.W.exm_one (M := model X.prog X.w) (J3.kIn) LT hb1
        have test : ∀ {Q : Value → Shared → Prop} {E : Value → Shared → Prop}, Q c { s' with heap := h3 } → wpAny (model X.prog X.w) (X.A.mark (some (.ref a))) (eval (.Name x np) X.env) Q E { s' with heap := h3 } := fun {Q E} q => by
          obtain ⟨hg, hdbg, hm | ⟨hm, hv, hnn⟩⟩ := hc
          · exact ld_glob (X := X.suite a ((a, oe3) :: (X.pn ++ pins))) S3 hg hm q hdbg
          · exact ld_blt (X := X.suite a ((a, oe3) :: (X.pn ++ pins))) S3 hg hm hv q hnn hdbg
        refine test (LM.here ?_)
        cases b with
        | true =>
          refine codeAny_handlers_suite_as ?_
          refine HandSPX.lands_againZ fl3 fun h4 fl4 up4 => ?_
          have J4 : Inv X pins σ' H' { s' with heap := h4 } := J.landed nb fl4.1 ((up.trans up3).trans up4) os ag
          obtain ⟨oe4, vs4, he4, hz4, hd4⟩ := fl4.there
          have S4 := J4.suite he4 hd4 na nL nF
          refine store_ok (X := X.suite a ((a, oe4) :: (X.pn ++ pins))) (v := .ref a) S4 hN hi hloc rfl (fun s5 S5 => ?_) (.inr hln)
          refine wpAny_mono ((hsu a oe4 cls d (X.pn ++ pins) hz4 ⟨_, hd4⟩).run [] s5 _ H' _ S5 (hyes rfl a na)) (fun f s6 hsp => ?_) (fun _ _ z => False.elim z)
          have end_ : ∀ {σ6 : L2.St} {H6 : Hp} {Q : Shared → Prop}, Inv (X.suite a ((a, oe4) :: (X.pn ++ pins))) [] σ6 H6 s6 → (∀ s7, Inv X pins (σ6.set i none) H6 s7 → Q s7) →
              wpAny (model X.prog X.w) X.A (do bindName X.env n .none; unbindBehindTheSuite X.env n pos') (fun _ s7 => Q s7) X.xe s6 := fun {σ6 H6 Q} S6 hq => gone_ok (S6.unsuite ok) hN hi hln hq
          cases f with
          | next =>
            obtain ⟨σ6, H6, S6, q6⟩ := hsp
            exact end_ S6 fun s7 J7 => ⟨_, _, J7, q6⟩
          | brk =>
            obtain ⟨σ6, H6, S6, q6⟩ := hsp
            exact end_ S6 fun s7 J7 => ⟨_, _, J7, q6⟩
          | cont =>
            obtain ⟨σ6, H6, S6, q6⟩ := hsp
            exact end_ S6 fun s7 J7 => ⟨_, _, J7, q6⟩
          | ret u =>
            obtain ⟨v6, σ6, H6, S6, r6, q6⟩ := hsp
            exact end_ S6 fun s7 J7 => ⟨_, _, _, J7, r6, q6⟩
        | false =>
          show wpAny _ X.A (handleBy (.ref a) X.env hds2) _ _ _
          exact ih (hno rfl)
    exact go hh w
  · cases f with
    | next =>
      obtain ⟨σ', H', J', q⟩ := hsp
      exact wpAny_execs_nil ⟨σ', H', J'.ofTry ok, q⟩
    | brk =>
      obtain ⟨σ', H', J', q⟩ := hsp
      exact ⟨σ', H', J'.ofTry ok, q⟩
    | cont =>
      obtain ⟨σ', H', J', q⟩ := hsp
      exact ⟨σ', H', J'.ofTry ok, q⟩
    | ret u =>
      obtain ⟨v, σ', H', J', r, q⟩ := hsp
      exact ⟨v, σ', H', J'.ofTry ok, r, q⟩
/-- the clauses catch the exceptions of xs, each by its own -/
inductive HsOk (X : Cx) (n : Str) (fh : Addr → Exn → MS) : List ExceptHandler → List Str → Prop
  | nil : HsOk X n fh [] []
  | cons {y : Str} {b₀ : Stmt} {suite : List Stmt} {np pos' : Pos} {hds : List ExceptHandler} (ys zs : List Str) {xs : List Str} (hy : X.mg y = some (.ref (He.ga X.K y))) (h1 : ∀ x ∈ ys, PySem.W.exmOne X.K (.ref (He.ga X.K x)) (.ref (He.ga X.K y)) = some true) (h0 : ∀ x ∈ zs, PySem.W.exmOne X.K (.ref (He.ga X.K x)) (.ref (He.ga X.K y)) = some false)
      (hsu : ∀ (a : Addr) (oe : Obj) (x : Exn) (pn : List (Addr × Obj)), x.cls ∈ ys → Held X.K x oe → PSs (X.suite a ((a, oe) :: pn)) (b₀ :: suite) (tS X.K (fun _ _ _ _ => False) (fh a x))) (r : HsOk X n fh hds zs)
      (hx : ∀ x ∈ xs, x ∈ ys ∨ x ∈ zs := by decide) (hg : Gl X y := by rfl) (hdb : (y == ("__debug__" : Str)) = false := by decide) :
      HsOk X n fh (.ExceptHandler (some (.Name y np)) (some n) (b₀ :: suite) pos' :: hds) xs
abbrev tsOf (X : Cx) (fh : Addr → Exn → MS) (ys : List Str) : Addr → Value → Option Addr → TS := fun a cls d D σ H => ∃ x : Exn, (x.cls ∈ ys ∧ cls = .ref (He.ga X.K x.cls) ∧ d = none) ∧ tS X.K (fun _ _ _ _ => False) (fh a x) D σ H
theorem HsOk.made {fh : Addr → Exn → MS} {hds : List ExceptHandler} {xs : List Str} (h : HsOk X n fh hds xs) : ∃ l, HdsAs X n hds l ∧ ∀ (Wout : WX) (D : Ends) (x : Exn) (σ : L2.St) (H : Hp), x.cls ∈ xs → x.fs = none →
    (∀ a, H a = none → tS X.K (fun _ _ _ _ => False) (fh a x) { nx := fun σ' H' => D.nx (σ'.set i none) H', rt := D.rt, bk := fun σ' H' => D.bk (σ'.set i none) H', ct := fun σ' H' => D.ct (σ'.set i none) H' } (σ.set i (some (.ref a))) H) → wAsMany X.K i Wout D l (.ref (He.ga X.K x.cls)) none σ H := by
  induction h with
  | nil => exact ⟨[], .nil, fun _ _ _ _ _ hx => by cases hx⟩
  | @cons y b₀ suite np pos' hds ys zs xs hy h1 h0 hsu r hx hg hdb ih =>
    obtain ⟨l, hl, hw⟩ := ih
    refine ⟨(.ref (He.ga X.K y), tsOf X fh ys) :: l, .cons ⟨hg, hdb, .inl hy⟩ (fun a oe cls d pn hz hf => ⟨fun pins s σ H D I h => ?_⟩) hl, fun Wout D x σ H hxm hxf q => ?_⟩
    · obtain ⟨x, ⟨hxm, rfl, rfl⟩, q⟩ := h
      exact (hsu a oe x pn hxm ⟨hz, hf⟩).run pins s σ H D I q
    · by_cases c : x.cls ∈ ys
      · exact ⟨true, h1 _ c, fun _ a na => ⟨x, ⟨c, rfl, rfl⟩, q a na⟩, fun z => by cases z⟩
      · have cz := (hx _ hxm).resolve_left c
        exact ⟨false, h0 _ cz, (fun z => by cases z), fun _ => hw Wout D x σ H cz hxf q⟩
theorem d_tryM {WE : WX} {xs : List Str} {fb : MS} {fh : Addr → Exn → MS} (hs : X.stack = X.env :: X.outer) (hf : X.env.frame = some X.env.locals) (hN : X.N.Nodup) (hi : X.N[i]? = some n) (hln : X.env.kindOf n = some .local) (tk : Takes X WE)
    (hb : ∀ (W : WX) (pn : List (Addr × Obj)) (xe : Value → Shared → Prop), Takes (X.tr pn xe) W → PassesOwn (model X.prog X.w) X.A X.env xe → PSs (X.tr pn xe) body (tS X.K W fb)) (hh : HsOk X n fh (h₀ :: hds) xs) :
    PS X (.Try body (h₀ :: hds) [] [] pos) (tS X.K WE (sTry i xs fb fh)) := by
  obtain ⟨l, hl, hw⟩ := hh.made (i := i)
  refine PS.weak (ps_try_asMany (i := i) (Wout := WE) hs hf hN hi hln tk hb hl) fun DD σ H h => ?_
  obtain ⟨B, φ, S, R, E, q, hn, hr, hbk, hct, hx⟩ := h
  refine ⟨B, φ, S, R, _, q, hn, hr, hbk, hct, ?_⟩
  rintro x S' σ' cls d B' φ' H' ⟨⟨hxm, hxf⟩, ha⟩ e' R' rx
  obtain ⟨rc, rd⟩ := rx
  subst rc
  rw [hxf] at rd
  subst rd
  refine hw WE DD x σ' H' hxm hxf fun a na => ⟨B', φ', ⟨S'.σ.set i (some (.gl a)), S'.W⟩, R'.set (by simp only [Rep]), _, ha a, ?_, ?_, ?_, ?_, ?_⟩
  · intro S2 σ2 B2 φ2 H2 a1 a2 a3
    exact hn _ _ B2 φ2 H2 a1 (e'.trans a2) (a3.unset i)
  · intro d2 S2 σ2 v B2 φ2 H2 a1 a2 a3 a4
    exact hr _ _ _ _ B2 φ2 H2 a1 (e'.trans a2) a3 a4
  · intro S2 σ2 B2 φ2 H2 a1 a2 a3
    exact hbk _ _ B2 φ2 H2 a1 (e'.trans a2) (a3.unset i)
  · intro S2 σ2 B2 φ2 H2 a1 a2 a3
    exact hct _ _ B2 φ2 H2 a1 (e'.trans a2) (a3.unset i)
  · intro x2 S2 σ2 cls2 d2 B2 φ2 H2 a1
    exact a1.elim
end
/-- the suite of the class -/
def suitOf (c : Str) : List (List Str × MS) → MS
  | [] => fun _ _ => False
  | q :: r => if c ∈ q.1 then q.2 else suitOf c r
theorem suit_here {c : Str} {l : List Str} {m : MS} {r : List (List Str × MS)} (h : c ∈ l) : suitOf c ((l, m) :: r) = m := by rw [suitOf, if_pos h]
theorem suit_skip {c : Str} {ys l : List Str} {m : MS} {r : List (List Str × MS)} (h : c ∈ ys) (d : ∀ y ∈ ys, y ∉ l := by decide) : suitOf c ((l, m) :: r) = suitOf c r := by rw [suitOf, if_neg (d c h)]
theorem pss_eq {X : Cx} {W : WX} {ss : List Stmt} {t t' : MS} (e : t = t') (h : PSs X ss (tS X.K W t')) : PSs X ss (tS X.K W t) := e ▸ h
end Tw

set_option Elab.async false
set_option linter.all false
set_option maxRecDepth 100000
set_option maxHeartbeats 8000000
namespace Kx
open PySem PySem.Spec PyProof.Rows L2 Tw
local macro_rules | `(tactic| walk_at "tw") => `(tactic| simp (config := { implicitDefEqProofs := false }) only [vw_oX, lay_oX, isNon_oX, eq_oX, lays_oX, eqs_oX, eqs_oXc, lays_rowX, oX_none, dRep_lst, rep8, atI5m1, atI5m2, atI4m1, atI4m2, Tw.sFld, mMeth, mMake, mGet2, mPop1, mPop2, mSetd, gPop, gPop0, sTry1, mDisp, sRaise0, sTry, mIsEs, mGbs, bIsE, bIsEt, bTuple, bInt, startA, fEnds, oD_none, oD_some, oS_none, oS_some, sSeq, sNext, sSet, sAsg, sRet, sExpr, sIf, sBreak, sCont, sAug, mTest, mBin, M.bind, M.pure, mVar, mC, mCons, mNil, mTup, mLst, newL_t, newL_f, tm_int, tm_str, tm_bool, tm_tuple, tm_list, tm_dict, isT_NoneType_int, isT_NoneType_str, isT_NoneType_bool, isT_NoneType_tuple, isT_NoneType_list, isT_NoneType_dict, isT_bool_int, isT_bool_str, isT_bool_bool, isT_bool_tuple, isT_bool_list, isT_bool_dict, isT_int_int, isT_int_str, isT_int_bool, isT_int_tuple, isT_int_list, isT_int_dict, isT_str_int, isT_str_str, isT_str_bool, isT_str_tuple, isT_str_list, isT_str_dict, isT_tuple_int, isT_tuple_str, isT_tuple_bool, isT_tuple_tuple, isT_tuple_list, isT_tuple_dict, isT_list_int, isT_list_str, isT_list_bool, isT_list_tuple, isT_list_list, isT_list_dict, isT_dict_int, isT_dict_str, isT_dict_bool, isT_dict_tuple, isT_dict_list, isT_dict_dict, nc0, nc1, nc2, nc3, nc4, nc5, nc6, nc7, nc8, nc9, beq_self_eq_true, bne_self_eq_false, Int.reduceBEq, Int.reduceBNe,  mNoPart, mPart, mSl, dIx_str, dIx_lst, dIx_sq, dIx_tup, dIx_hndi, dIx_hnds, dIx_dcti, dIx_dcts, dAdd_int, dAdd_str, dAdd_tup, dAdd_ll, dAdd_lh, dAdd_hl, dAdd_hh, dSl_str, dSl_tup, dSl_lst, dSl_sq, dSl_hnd, dIn_str, dIn_lst, dIn_sq, dIn_tup, dIn_dct, dIn_hnd, bLen_str, bLen_lst, bLen_sq, bLen_tup, bLen_hnd, dSet_hnd, toKey_int, toKey_str, mAnd, mOr, mNot, mAndV_eq, mOrV_eq, mNotV, mIf, mChain_eq, cpow13, p13, sgn_list, abc_iff, zyx_iff, Bool.not_eq_true, negb_f, negb_t, mYes, mCall,
  dSub, dMul, dMod, dDiv, dPow, dNeg, dLt, dLe, dGt, dGe, iop, iop0, dEq, dNe, dIs, dIsB,  negb, ixL, ixN0, rdD, rdS, rdL, rdM, vw_non, isNon_non, vw_bl, isNon_bl, vw_int, isNon_int, vw_str, isNon_str, vw_tup, isNon_tup, vw_lst, isNon_lst, vw_sq, isNon_sq, vw_ty, isNon_ty, vw_gl, isNon_gl, vw_dct, isNon_dct, vw_hnd, isNon_hnd, vw_oD, vw_oS, lay_oD, lay_oS, isNon_oD, isNon_oS, eq_oD, eq_oS, Option.isNone_some, Option.isNone_none, bMax, bMin, bIsi, tyN, bList, Tw.gN, Tw.gNil, Tw.gCons, Tw.gTup, Tw.gSub, ixSet, mMt, gAppend, gExtend, gClear, isLst, isStr, sFor, bIter_lst, bIter_sq, bIter_tup, bIter_str, bRange1, bRange2, bEnum, bZipA, bZip2, Tw.get_own, get_own_set, set_own_set, set_own, atI_snoc, atI_nil, ixN_nil, ixN_last, set_last, eqs_snoc, sl1, sl2, sl2t, cut1f, cut2f, cut3f, cut2t, cut4t, List.drop_succ_cons, List.drop_zero, List.take_succ_cons, List.take_zero, List.length_append, lays_oS, lays_rows, eqs_oSc, eq_oDi, eq_ioD, eq_oSs, eq_soS, eqs_oS, newD_t, newD_f, bSortDI, bIsiT,  gFind, bIsiT, bRange3,
  List.map_cons, List.map_nil, List.length_cons, List.length_nil, List.length_map, List.cons_append, List.nil_append, List.getElem?_cons_zero, List.getElem?_cons_succ, List.set_cons_zero, List.set_cons_succ, List.replicate_succ, List.replicate_zero, Nat.zero_add, Nat.reduceAdd, Nat.reduceSub, Nat.add_eq, Nat.sub_self,
  if_true, if_false, Bool.not_true, Bool.not_false, Bool.not_not, Bool.false_eq_true, ite_self, reduceIte, decide_eq_true_eq, decide_true, decide_false, Bool.not_eq_true', decide_eq_false_iff_not, true_and, and_true, Option.some.injEq, exists_eq', exists_eq_left', not_true_eq_false, not_false_eq_true,
  D.lay, D.lays, de_non_non, de_non_bl, de_non_int, de_non_str, de_non_tup, de_non_lst, de_non_sq, de_bl_non, de_bl_bl, de_bl_str, de_bl_tup, de_bl_lst, de_bl_sq, de_int_non, de_int_int, de_int_str, de_int_tup, de_int_lst, de_int_sq, de_str_non, de_str_bl, de_str_int, de_str_str, de_str_tup, de_str_lst, de_str_sq, de_tup_non, de_tup_bl, de_tup_int, de_tup_str, de_tup_tup, de_tup_lst, de_tup_sq, de_lst_non, de_lst_bl, de_lst_int, de_lst_str, de_lst_tup, de_lst_lst, de_lst_sq, de_sq_non, de_sq_bl, de_sq_int, de_sq_str, de_sq_tup, de_sq_lst, de_sq_sq, deqs_nn, deqs_nc, deqs_cn, deqs_cc, beq_iff_eq, Bool.and_true, Bool.true_and, Bool.and_eq_true, sz0, sz1, sz2, sz3, sz4, sz5, sz6, sz7, sz8, sz9, atI0, atI1, atI2, atI3, atI4, atI5, atI6, atI7, atI8, cpow12, p12, cdivW2, cdivW3, cdivW4, cdivW5, cdivW6, cdivW7, cdivW8, Int.reduceLT, Int.reduceLE, Int.reduceAdd, Int.reduceSub, Int.reduceNeg, Int.reduceEq, false_and, and_false, reduceCtorEq])
local macro_rules | `(tactic| walk_at "tws") => `(tactic| simp (config := { implicitDefEqProofs := false }) only [vw_oX, lay_oX, isNon_oX, eq_oX, lays_oX, eqs_oX, eqs_oXc, lays_rowX, oX_none, dRep_lst, rep8, atI5m1, atI5m2, atI4m1, atI4m2, Tw.sFld, mMeth, mMake, mGet2, mPop1, mPop2, mSetd, gPop, gPop0, sTry1, mDisp, sRaise0, sTry, mIsEs, mGbs, bIsE, bIsEt, bTuple, bInt, startA, fEnds, oD_none, oD_some, oS_none, oS_some, sSeq, sNext, sSet, sAsg, sRet, sExpr, sIf, sBreak, sCont, sAug, mTest, mBin, M.bind, M.pure, mVar, mC, mCons, mNil, mTup, mLst, newL_t, newL_f, tm_int, tm_str, tm_bool, tm_tuple, tm_list, tm_dict, isT_NoneType_int, isT_NoneType_str, isT_NoneType_bool, isT_NoneType_tuple, isT_NoneType_list, isT_NoneType_dict, isT_bool_int, isT_bool_str, isT_bool_bool, isT_bool_tuple, isT_bool_list, isT_bool_dict, isT_int_int, isT_int_str, isT_int_bool, isT_int_tuple, isT_int_list, isT_int_dict, isT_str_int, isT_str_str, isT_str_bool, isT_str_tuple, isT_str_list, isT_str_dict, isT_tuple_int, isT_tuple_str, isT_tuple_bool, isT_tuple_tuple, isT_tuple_list, isT_tuple_dict, isT_list_int, isT_list_str, isT_list_bool, isT_list_tuple, isT_list_list, isT_list_dict, isT_dict_int, isT_dict_str, isT_dict_bool, isT_dict_tuple, isT_dict_list, isT_dict_dict, nc0, nc1, nc2, nc3, nc4, nc5, nc6, nc7, nc8, nc9, beq_self_eq_true, bne_self_eq_false, Int.reduceBEq, Int.reduceBNe,  mNoPart, mPart, mSl, dIx_str, dIx_lst, dIx_sq, dIx_tup, dIx_hndi, dIx_hnds, dIx_dcti, dIx_dcts, dAdd_int, dAdd_str, dAdd_tup, dAdd_ll, dAdd_lh, dAdd_hl, dAdd_hh, dSl_str, dSl_tup, dSl_lst, dSl_sq, dSl_hnd, dIn_str, dIn_lst, dIn_sq, dIn_tup, dIn_dct, dIn_hnd, bLen_str, bLen_lst, bLen_sq, bLen_tup, bLen_hnd, dSet_hnd, toKey_int, toKey_str, mAnd, mOr, mNot, mAndV_eq, mOrV_eq, mNotV, mIf, mChain_eq, cpow13, p13, sgn_list, abc_iff, zyx_iff, Bool.not_eq_true, negb_f, negb_t, mYes, mCall,
  dSub, dMul, dMod, dDiv, dPow, dNeg, dLt, dLe, dGt, dGe, iop, iop0, dEq, dNe, dIs, dIsB,  negb, ixL, ixN0, rdD, rdS, rdL, rdM, vw_non, isNon_non, vw_bl, isNon_bl, vw_int, isNon_int, vw_str, isNon_str, vw_tup, isNon_tup, vw_lst, isNon_lst, vw_sq, isNon_sq, vw_ty, isNon_ty, vw_gl, isNon_gl, vw_dct, isNon_dct, vw_hnd, isNon_hnd, vw_oD, vw_oS, lay_oD, lay_oS, isNon_oD, isNon_oS, eq_oD, eq_oS, Option.isNone_some, Option.isNone_none, bMax, bMin, bIsi, tyN, bList, Tw.gN, Tw.gNil, Tw.gCons, Tw.gTup, Tw.gSub, ixSet, mMt, gAppend, gExtend, gClear, isLst, isStr, sFor, bIter_lst, bIter_sq, bIter_tup, bIter_str, bRange1, bRange2, bEnum, bZipA, bZip2, Tw.get_own, get_own_set, set_own_set, set_own, atI_snoc, atI_nil, ixN_nil, ixN_last, set_last, eqs_snoc, sl1, sl2, sl2t, cut1f, cut2f, cut3f, cut2t, cut4t, List.drop_succ_cons, List.drop_zero, List.take_succ_cons, List.take_zero, List.length_append, lays_oS, lays_rows, eqs_oSc, eq_oDi, eq_ioD, eq_oSs, eq_soS, eqs_oS, newD_t, newD_f, bSortDI, bIsiT,  gFind, bIsiT, bRange3,
  List.map_cons, List.map_nil, List.length_cons, List.length_nil, List.length_map, List.cons_append, List.nil_append, List.getElem?_cons_zero, List.getElem?_cons_succ, List.set_cons_zero, List.set_cons_succ, List.replicate_succ, List.replicate_zero, Nat.zero_add, Nat.reduceAdd, Nat.reduceSub, Nat.add_eq, Nat.sub_self,
  if_true, if_false, Bool.not_true, Bool.not_false, Bool.not_not, Bool.false_eq_true, ite_self, reduceIte, decide_eq_true_eq, decide_true, decide_false, Bool.not_eq_true', decide_eq_false_iff_not, true_and, and_true, Option.some.injEq, exists_eq', exists_eq_left', not_true_eq_false, not_false_eq_true,
  D.lay, D.lays, de_non_non, de_non_bl, de_non_int, de_non_str, de_non_tup, de_non_lst, de_non_sq, de_bl_non, de_bl_bl, de_bl_str, de_bl_tup, de_bl_lst, de_bl_sq, de_int_non, de_int_int, de_int_str, de_int_tup, de_int_lst, de_int_sq, de_str_non, de_str_bl, de_str_int, de_str_str, de_str_tup, de_str_lst, de_str_sq, de_tup_non, de_tup_bl, de_tup_int, de_tup_str, de_tup_tup, de_tup_lst, de_tup_sq, de_lst_non, de_lst_bl, de_lst_int, de_lst_str, de_lst_tup, de_lst_lst, de_lst_sq, de_sq_non, de_sq_bl, de_sq_int, de_sq_str, de_sq_tup, de_sq_lst, de_sq_sq, deqs_nn, deqs_nc, deqs_cn, deqs_cc, beq_iff_eq, Bool.and_true, Bool.true_and, Bool.and_eq_true, sz0, sz1, sz2, sz3, sz4, sz5, sz6, sz7, sz8, sz9, atI0, atI1, atI2, atI3, atI4, atI5, atI6, atI7, atI8, cpow12, p12, cdivW2, cdivW3, cdivW4, cdivW5, cdivW6, cdivW7, cdivW8, Int.reduceLT, Int.reduceLE, Int.reduceAdd, Int.reduceSub, Int.reduceNeg, Int.reduceEq, false_and, and_false, reduceCtorEq, *])

def top (i : Nat) : Stmt := PySem.Challenge.pw_twotimes_k33_asks_refused.main.body.getD i (.Pass ⟨0, 0, 0, 0⟩)
abbrev s_Sheet___init__ : Stmt := (inClass (top 30) 0)
abbrev N_Sheet___init__ : List Str := ["self"]
abbrev s_Sheet_keys_told : Stmt := (inClass (top 30) 11)
abbrev N_Sheet_keys_told : List Str := ["self"]
abbrev s_Sheet_line_of : Stmt := (inClass (top 30) 8)
abbrev N_Sheet_line_of : List Str := ["self", "key", "knowing", "line", "since", "became"]
abbrev s_Sheet_need_knowing : Stmt := (inClass (top 30) 6)
abbrev N_Sheet_need_knowing : List Str := ["self", "knowing"]
abbrev s_Sheet_keys_at : Stmt := (inClass (top 30) 12)
abbrev N_Sheet_keys_at : List Str := ["self", "knowing", "key"]
abbrev s_Sheet_knowings : Stmt := (inClass (top 30) 4)
abbrev N_Sheet_knowings : List Str := ["self"]
abbrev s_is_name : Stmt := (top 14)
abbrev N_is_name : List Str := ["thing", "sign"]
abbrev s_Sheet_need_key : Stmt := (inClass (top 30) 7)
abbrev N_Sheet_need_key : List Str := ["self", "key"]
abbrev s_Sheet_line_at : Stmt := (inClass (top 30) 10)
abbrev N_Sheet_line_at : List Str := ["self", "key", "knowing"]
abbrev s_earlier_end : Stmt := (top 17)
abbrev N_earlier_end : List Str := ["one", "other"]
abbrev s_common : Stmt := (top 18)
abbrev N_common : List Str := ["one", "other", "begin", "end"]
abbrev s_cut_to : Stmt := (top 27)
abbrev N_cut_to : List Str := ["line", "begin", "end", "found", "row", "stretch"]
abbrev s_with_neighbours_joined : Stmt := (top 26)
abbrev N_with_neighbours_joined : List Str := ["rows", "found", "row"]
abbrev s_put_on : Stmt := (top 28)
abbrev N_put_on : List Str := ["line", "begin", "end", "worth", "rows"]
abbrev s_Sheet_line_behind : Stmt := (inClass (top 30) 2)
abbrev N_Sheet_line_behind : List Str := ["self", "telling", "knowing", "worth"]
abbrev s_Sheet_take_in : Stmt := (inClass (top 30) 3)
abbrev N_Sheet_take_in : List Str := ["self", "telling", "knowing", "line"]
abbrev s_is_moment : Stmt := (top 15)
abbrev N_is_moment : List Str := ["thing"]
abbrev s_is_stretch : Stmt := (top 16)
abbrev N_is_stretch : List Str := ["begin", "end"]
abbrev s_Sheet_tell : Stmt := (inClass (top 30) 1)
abbrev N_Sheet_tell : List Str := ["self", "telling", "name"]
abbrev s_worth_in : Stmt := (top 25)
abbrev N_worth_in : List Str := ["line", "moment", "begin", "end", "worth"]
abbrev s_Sheet_worth_at : Stmt := (inClass (top 30) 9)
abbrev N_Sheet_worth_at : List Str := ["self", "key", "moment", "knowing"]
abbrev s_all_at : Stmt := (top 21)
abbrev N_all_at : List Str := ["sheet", "moment", "knowing", "keys", "rows", "key", "worth"]
abbrev s_need_name : Stmt := (top 20)
abbrev N_need_name : List Str := ["thing"]
abbrev s_when : Stmt := (top 22)
abbrev N_when : List Str := ["sheet", "key", "worth", "knowing", "line", "part"]
abbrev s_who : Stmt := (top 23)
abbrev N_who : List Str := ["sheet", "worth", "knowing", "keys", "rows", "key", "begin", "end"]
abbrev s__law_called : Stmt := (top 38)
abbrev N__law_called : List Str := ["sheet", "way", "key", "worth", "moment", "knowing"]
abbrev s__law_asked : Stmt := (top 39)
abbrev N__law_asked : List Str := ["sheet", "way", "key", "worth", "moment", "knowing", "caught", "e", "other"]
abbrev s__law_cell_at : Stmt := (top 32)
abbrev N__law_cell_at : List Str := ["script", "k"]
abbrev s__law_due : Stmt := (top 40)
abbrev N__law_due : List Str := ["way", "goods"]
abbrev s__law_by_digits : Stmt := (top 36)
abbrev N__law_by_digits : List Str := ["cell", "keys", "worths", "begin", "end"]
abbrev s__law_tumbled : Stmt := (top 33)
abbrev N__law_tumbled : List Str := ["cell", "k", "stir"]
abbrev s__law_stretch : Stmt := (top 35)
abbrev N__law_stretch : List Str := ["cell", "kind", "begin"]
abbrev s__law_telling : Stmt := (top 37)
abbrev N__law_telling : List Str := ["cell", "keys", "worths", "key", "begin", "end"]
abbrev s__law_words : Stmt := (top 34)
abbrev N__law_words : List Str := ["cell", "letters", "word", "at", "first", "last", "moved", "k"]
abbrev s_law : Stmt := (top 41)
abbrev N_law : List Str := ["script", "keys", "worths", "sheet", "cell", "last", "lines", "k", "xs", "goods", "odd", "key", "worth", "moment", "knowing", "way", "there", "j"]
def subX (c y : Str) : Bool := decide (c = y) || decide (y = "TimesError")
abbrev UF_told_so : List Str := (["Sheet"] : List Str)
abbrev UF_became : List Str := (["Sheet"] : List Str)
abbrev U_Sheet_keys_at : List Str := (["Sheet"] : List Str)
def c_Sheet_keys_at : FC := recv U_Sheet_keys_at M_Sheet_keys_at
abbrev U_Sheet_keys_told : List Str := (["Sheet"] : List Str)
def c_Sheet_keys_told : FC := recv U_Sheet_keys_told M_Sheet_keys_told
abbrev U_Sheet_knowings : List Str := (["Sheet"] : List Str)
def c_Sheet_knowings : FC := recv U_Sheet_knowings M_Sheet_knowings
abbrev U_Sheet_line_at : List Str := (["Sheet"] : List Str)
def c_Sheet_line_at : FC := recv U_Sheet_line_at M_Sheet_line_at
abbrev U_Sheet_line_behind : List Str := (["Sheet"] : List Str)
def c_Sheet_line_behind : FC := recv U_Sheet_line_behind M_Sheet_line_behind
abbrev U_Sheet_line_of : List Str := (["Sheet"] : List Str)
def c_Sheet_line_of : FC := recv U_Sheet_line_of M_Sheet_line_of
abbrev U_Sheet_need_key : List Str := (["Sheet"] : List Str)
def c_Sheet_need_key : FC := recv U_Sheet_need_key M_Sheet_need_key
abbrev U_Sheet_need_knowing : List Str := (["Sheet"] : List Str)
def c_Sheet_need_knowing : FC := recv U_Sheet_need_knowing M_Sheet_need_knowing
abbrev U_Sheet_take_in : List Str := (["Sheet"] : List Str)
def c_Sheet_take_in : FC := recv U_Sheet_take_in M_Sheet_take_in
abbrev U_Sheet_tell : List Str := (["Sheet"] : List Str)
def c_Sheet_tell : FC := recv U_Sheet_tell M_Sheet_tell
abbrev U_Sheet_worth_at : List Str := (["Sheet"] : List Str)
def c_Sheet_worth_at : FC := recv U_Sheet_worth_at M_Sheet_worth_at
abbrev UT_keys_at_2_Sheet : List Str := (["Sheet"] : List Str)
abbrev T_keys_at_2 : Tbl := [(UT_keys_at_2_Sheet, M_Sheet_keys_at)]
abbrev UT_keys_told_1_Sheet : List Str := (["Sheet"] : List Str)
abbrev T_keys_told_1 : Tbl := [(UT_keys_told_1_Sheet, M_Sheet_keys_told)]
abbrev UT_knowings_1_Sheet : List Str := (["Sheet"] : List Str)
abbrev T_knowings_1 : Tbl := [(UT_knowings_1_Sheet, M_Sheet_knowings)]
abbrev UT_line_at_3_Sheet : List Str := (["Sheet"] : List Str)
abbrev T_line_at_3 : Tbl := [(UT_line_at_3_Sheet, M_Sheet_line_at)]
abbrev UT_line_behind_3_Sheet : List Str := (["Sheet"] : List Str)
abbrev T_line_behind_3 : Tbl := [(UT_line_behind_3_Sheet, M_Sheet_line_behind)]
abbrev UT_line_of_3_Sheet : List Str := (["Sheet"] : List Str)
abbrev T_line_of_3 : Tbl := [(UT_line_of_3_Sheet, M_Sheet_line_of)]
abbrev UT_need_key_2_Sheet : List Str := (["Sheet"] : List Str)
abbrev T_need_key_2 : Tbl := [(UT_need_key_2_Sheet, M_Sheet_need_key)]
abbrev UT_need_knowing_2_Sheet : List Str := (["Sheet"] : List Str)
abbrev T_need_knowing_2 : Tbl := [(UT_need_knowing_2_Sheet, M_Sheet_need_knowing)]
abbrev UT_take_in_3_Sheet : List Str := (["Sheet"] : List Str)
abbrev T_take_in_3 : Tbl := [(UT_take_in_3_Sheet, M_Sheet_take_in)]
abbrev UT_tell_2_Sheet : List Str := (["Sheet"] : List Str)
abbrev T_tell_2 : Tbl := [(UT_tell_2_Sheet, M_Sheet_tell)]
abbrev UT_worth_at_4_Sheet : List Str := (["Sheet"] : List Str)
abbrev T_worth_at_4 : Tbl := [(UT_worth_at_4_Sheet, M_Sheet_worth_at)]
def c_Sheet___init__ : FC := fun ds W P _ => ∃ n C, ds = [.hnd n] ∧ W[n]? = some (.ins C []) ∧ C ∈ UF_told_so ∧ P .non (W.set n (.ins C [("told_so", .hnd W.length), ("became", .hnd (W.length + 1))]) ++ [O.lst [], O.dct [] []])
theorem len_Sheet___init__ : ∀ ds W P X, c_Sheet___init__ ds W P X → ds.length = 1 := by rintro ds W P X ⟨n, C, rfl, _⟩; rfl
theorem f_Sheet___init___1_ex  : ∃ f : MS, f = (Tw.sFld "became" UF_became (mVar 0) (newD true [] [])) := ⟨_, rfl⟩
noncomputable def f_Sheet___init___1  : MS := Classical.choose (f_Sheet___init___1_ex )
theorem f_Sheet___init___1_eq  : f_Sheet___init___1  = (Tw.sFld "became" UF_became (mVar 0) (newD true [] [])) := Classical.choose_spec (f_Sheet___init___1_ex )
theorem f_Sheet___init___ex  : ∃ f : MS, f = (sSeq (Tw.sFld "told_so" UF_told_so (mVar 0) (mLst true mNil)) f_Sheet___init___1) := ⟨_, rfl⟩
noncomputable def f_Sheet___init__  : MS := Classical.choose (f_Sheet___init___ex )
theorem f_Sheet___init___eq  : f_Sheet___init__  = (sSeq (Tw.sFld "told_so" UF_told_so (mVar 0) (mLst true mNil)) f_Sheet___init___1) := Classical.choose_spec (f_Sheet___init___ex )

theorem pure_Sheet___init__ : ∀ ds W P X, c_Sheet___init__ ds W P X → f_Sheet___init__ ⟨startA 1 ds, W⟩ (fEnds W P X) := by
  rintro ds W P X ⟨n, C, rfl, hw, hC, h⟩
  have hn : n < W.length := (List.getElem?_eq_some_iff.mp hw).1
  simp only [f_Sheet___init___eq]
  walk_at "tw"
  refine putf_go (get_app hw) hC (by decide) ?_
  simp only [f_Sheet___init___1_eq]
  walk_at "tw"
  have e1 : ((W ++ [O.lst []]).set n (.ins C (putFD "told_so" (.hnd W.length) []))) ++ [.dct [] []] = W.set n (.ins C (putFD "told_so" (.hnd W.length) [])) ++ [O.lst [], O.dct [] []] := by rw [List.set_append_left _ _ hn]; simp
  rw [e1]
  have e2 : (W.set n (O.ins C (putFD "told_so" (.hnd W.length) [])) ++ [O.lst [], O.dct [] []])[n]? = some (.ins C [("told_so", .hnd W.length)]) := by rw [List.getElem?_append_left (by simpa using hn), List.getElem?_set_self hn]; rfl
  have e3 : ((W ++ [O.lst []]).set n (.ins C (putFD "told_so" (.hnd W.length) []))).length = W.length + 1 := by simp
  rw [e3]
  refine putf_go e2 ((by decide : ∀ C ∈ UF_told_so, C ∈ UF_became) _ hC) (by show (1 : Nat) < 900; decide) (.inl ?_)
  have e4 : (W.set n (O.ins C (putFD "told_so" (.hnd W.length) [])) ++ [O.lst [], O.dct [] []]).set n (.ins C (putFD "became" (.hnd (W.length + 1)) [("told_so", .hnd W.length)])) = W.set n (.ins C [("told_so", .hnd W.length), ("became", .hnd (W.length + 1))]) ++ [O.lst [], O.dct [] []] := by
    rw [List.set_append_left _ _ (by simpa using hn), List.set_set]
    rfl
  show P .non ((W.set n (O.ins C (putFD "told_so" (.hnd W.length) [])) ++ [O.lst [], O.dct [] []]).set n _)
  rw [e4]
  exact h

theorem len_Sheet_keys_told : ∀ ds W P X, c_Sheet_keys_told ds W P X → ds.length = 1 := by rintro ds W P X ⟨_, C, n, fp, ts, lo, rfl, _⟩; rfl

theorem f_Sheet_keys_told_ex  : ∃ f : MS, f = (sRet (M.bind (mCons (M.bind (mVar 0) (dFld "became" UF_became)) mNil) (bSortDT false))) := ⟨_, rfl⟩
noncomputable def f_Sheet_keys_told  : MS := Classical.choose (f_Sheet_keys_told_ex )
theorem f_Sheet_keys_told_eq  : f_Sheet_keys_told  = (sRet (M.bind (mCons (M.bind (mVar 0) (dFld "became" UF_became)) mNil) (bSortDT false))) := Classical.choose_spec (f_Sheet_keys_told_ex )

theorem pure_Sheet_keys_told : ∀ ds W P X, c_Sheet_keys_told ds W P X → f_Sheet_keys_told ⟨startA 1 ds, W⟩ (fEnds W P X) := by
  rintro ds W P X ⟨⟨n', r, C', e, hA, hC⟩, C, n, fp, ts, lo, rfl, sh, h⟩
  cases e
  obtain rfl := hA.eq sh.isA
  obtain rfl := (by decide : ∀ C ∈ U_Sheet_keys_told, C = "Sheet") _ hC
  obtain ⟨a, c, hs, xs, _, _, _, w1, w2, w3, _, hl, w5⟩ := sh.ex
  simp only [f_Sheet_keys_told_eq]
  walk_at "tw"
  refine fld_go w1 shF_bec ((by decide : ∀ C ∈ U_Sheet_keys_told, C ∈ UF_became) _ hC) ?_
  refine ⟨keysOf ts, hs.map D.hnd, by simp only [rdD, w3], ?_⟩
  walk_at "tw"
  exact .inl h

theorem len_Sheet_line_of : ∀ ds W P X, c_Sheet_line_of ds W P X → ds.length = 3 := by rintro ds W P X ⟨_, C, n, fp, td, ts, lo, key, k, rfl, _⟩; rfl
theorem f_Sheet_line_of_1_ex  : ∃ f : MS, f = (sIf (mTest (mBin dLe (mVar 4) (mVar 2))) (sSet 3 (mVar 5)) sNext) := ⟨_, rfl⟩
noncomputable def f_Sheet_line_of_1  : MS := Classical.choose (f_Sheet_line_of_1_ex )
theorem f_Sheet_line_of_1_eq  : f_Sheet_line_of_1  = (sIf (mTest (mBin dLe (mVar 4) (mVar 2))) (sSet 3 (mVar 5)) sNext) := Classical.choose_spec (f_Sheet_line_of_1_ex )
theorem f_Sheet_line_of_2_ex  : ∃ f : MS, f = (sRet (M.bind (mCons (mVar 3) mNil) (bList true))) := ⟨_, rfl⟩
noncomputable def f_Sheet_line_of_2  : MS := Classical.choose (f_Sheet_line_of_2_ex )
theorem f_Sheet_line_of_2_eq  : f_Sheet_line_of_2  = (sRet (M.bind (mCons (mVar 3) mNil) (bList true))) := Classical.choose_spec (f_Sheet_line_of_2_ex )
theorem f_Sheet_line_of_3_ex  : ∃ f : MS, f = (sSeq (sFor (M.bind (mGet2 (M.bind (mVar 0) (dFld "became" UF_became)) (mVar 1) (mLst false mNil)) bIter) (gTup 2 (gCons (gN 4) (gCons (gN 5) gNil))) f_Sheet_line_of_1) f_Sheet_line_of_2) := ⟨_, rfl⟩
noncomputable def f_Sheet_line_of_3  : MS := Classical.choose (f_Sheet_line_of_3_ex )
theorem f_Sheet_line_of_3_eq  : f_Sheet_line_of_3  = (sSeq (sFor (M.bind (mGet2 (M.bind (mVar 0) (dFld "became" UF_became)) (mVar 1) (mLst false mNil)) bIter) (gTup 2 (gCons (gN 4) (gCons (gN 5) gNil))) f_Sheet_line_of_1) f_Sheet_line_of_2) := Classical.choose_spec (f_Sheet_line_of_3_ex )
theorem f_Sheet_line_of_ex  : ∃ f : MS, f = (sSeq (sSet 3 (mLst false mNil)) f_Sheet_line_of_3) := ⟨_, rfl⟩
noncomputable def f_Sheet_line_of  : MS := Classical.choose (f_Sheet_line_of_ex )
theorem f_Sheet_line_of_eq  : f_Sheet_line_of  = (sSeq (sSet 3 (mLst false mNil)) f_Sheet_line_of_3) := Classical.choose_spec (f_Sheet_line_of_ex )

theorem pure_Sheet_line_of : ∀ ds W P X, c_Sheet_line_of ds W P X → f_Sheet_line_of ⟨startA 6 ds, W⟩ (fEnds W P X) := by
  rintro ds W P X ⟨⟨n', r, C', e, hA, hC⟩, C, n, fp, td, ts, lo, key, k, rfl, sh, hk0, hk, h⟩
  cases e
  obtain rfl := hA.eq sh.isA
  obtain rfl := (by decide : ∀ C ∈ U_Sheet_line_of, C = "Sheet") _ hC
  obtain ⟨a, c, hs, xs, _, _, _, w1, w2, w3, _, hl, w5⟩ := sh.ex
  simp only [f_Sheet_line_of_eq]
  walk_at "tw"
  simp only [f_Sheet_line_of_3_eq]
  walk_at "tw"
  refine fld_go w1 shF_bec ((by decide : ∀ C ∈ U_Sheet_line_of, C ∈ UF_became) _ hC) ?_
  have hd : rdD W (.hnd c) = some ((keysOf ts).map Sum.inr, hs.map D.hnd) := by simp only [rdD, w3]
  refine ⟨⟨_, _, hd⟩, ?_⟩
  walk_at "tw"
  have fin : ∀ (ps : List (Nat × List LRow)) (it : D) (chk : Wd → Prop), chk W → ps.foldl (fun l p => if p.1 ≤ k then p.2 else l) [] = lineOf (ts.take k) key →
      loop chk (fun x S2 E2 => Tw.gTup 2 (Tw.gCons (Tw.gN 4) (Tw.gCons (Tw.gN 5) Tw.gNil)) x S2 fun S3 => f_Sheet_line_of_1 S3 E2) (ps.map becD) ⟨[some (.hnd n'), some (.str key), some (.int k), some (.lst []), none, none], W⟩
        { nx := fun S1 => f_Sheet_line_of_2 S1 { nx := fun S => Done W P .non S.W, rt := fun d S => Done W P d S.W, bk := fun _ => False, ct := fun _ => False, ex := fun x S => DoneX W X x S.W }, rt := fun d S => Done W P d S.W, bk := fun _ => False, ct := fun _ => False, ex := fun x S => DoneX W X x S.W } := by
    intro ps it chk hc hp
    refine loop_ind becD (fun pre S => ∃ s4 s5, S = ⟨[some (.hnd n'), some (.str key), some (.int k), some (.lst ((pre.foldl (fun l p => if p.1 ≤ k then p.2 else l) []).map rowD)), s4, s5], W⟩) ps ⟨none, none, rfl⟩ ?_ ?_ ?_
    · rintro pre S ⟨s4, s5, rfl⟩
      exact hc
    · rintro pre ⟨i, ln⟩ post S hall ⟨s4, s5, rfl⟩ N hN
      have q := hN ⟨[some (.hnd n'), some (.str key), some (.int k), some (.lst (((pre ++ [(i, ln)]).foldl (fun l p => if p.1 ≤ k then p.2 else l) []).map rowD)), some (.int i), some (.lst (ln.map rowD))], W⟩ ⟨_, _, rfl⟩
      rw [List.foldl_append] at q
      simp only [becD, f_Sheet_line_of_1_eq]
      walk_at "tw"
      split
      · rename_i c1
        simp only [List.foldl_cons, List.foldl_nil, if_pos (show i ≤ k by omega)] at q
        exact q
      · rename_i c1
        simp only [List.foldl_cons, List.foldl_nil, if_neg (show ¬ i ≤ k by omega)] at q
        exact q
    · rintro S ⟨s4, s5, rfl⟩
      simp only [f_Sheet_line_of_2_eq]
      walk_at "tw"
      rw [hp]
      exact Done.own0 (g2 := []) (bels_rows _ _) h
  have hp := bec_pick key k ts
  rcases Sh.kept (k := key) hl w5 with ⟨q1, q2⟩ | ⟨i, hh, q1, q2, q3, q4⟩
  · refine get_none hd rfl q2 ?_
    walk_at "tw"
    rw [becOf_other q1] at hp
    exact fin [] (.lst []) _ trivial hp
  · refine get_some hd rfl q4 ?_
    have e : keptOf "Sheet" ts lo key = (becOf ts key).map becD := rfl
    rw [e] at q3
    refine bIter_rd (rdM_hnd q3) ⟨rdS_hnd q3, ?_⟩
    exact fin (becOf ts key) (.hnd hh) _ (rdS_hnd q3) hp

theorem len_Sheet_need_knowing : ∀ ds W P X, c_Sheet_need_knowing ds W P X → ds.length = 2 := by rintro ds W P X ⟨_, C, n, fp, ts, lo, k, rfl, _⟩; rfl

theorem f_Sheet_need_knowing_ex  : ∃ f : MS, f = (sIf (mNot (mTest (mChain dLe dLe (mC (.int 0)) (mVar 1) (M.bind (mCons (M.bind (mVar 0) (dFld "told_so" UF_told_so)) mNil) bLen)))) (sRaise0 "NoKnowing") sNext) := ⟨_, rfl⟩
noncomputable def f_Sheet_need_knowing  : MS := Classical.choose (f_Sheet_need_knowing_ex )
theorem f_Sheet_need_knowing_eq  : f_Sheet_need_knowing  = (sIf (mNot (mTest (mChain dLe dLe (mC (.int 0)) (mVar 1) (M.bind (mCons (M.bind (mVar 0) (dFld "told_so" UF_told_so)) mNil) bLen)))) (sRaise0 "NoKnowing") sNext) := Classical.choose_spec (f_Sheet_need_knowing_ex )

theorem pure_Sheet_need_knowing : ∀ ds W P X, c_Sheet_need_knowing ds W P X → f_Sheet_need_knowing ⟨startA 2 ds, W⟩ (fEnds W P X) := by
  rintro ds W P X ⟨⟨n', r, C', e, hA, hC⟩, C, n, fp, ts, lo, k, rfl, sh, h⟩
  cases e
  obtain rfl := hA.eq sh.isA
  obtain ⟨a, c, hs, xs, _, _, _, w1, w2, _⟩ := sh.ex
  have hns := (by decide : ∀ C ∈ U_Sheet_need_knowing, C ≠ "Short") _ hC
  have hlo := sh.lo0 hns
  simp only [f_Sheet_need_knowing_eq]
  walk_at "tw"
  unfold knAsk at h
  subst hlo
  by_cases c1 : 0 ≤ k
  · rw [if_pos c1]
    refine fld_go w1 shF_told ((by decide : ∀ C ∈ U_Sheet_need_knowing, C ∈ UF_told_so) _ hC) ?_
    walk_at "tw"
    simp only [w2, List.length_map]
    by_cases c2 : k ≤ (ts.length : Nat)
    · rw [if_pos ⟨c1, c2⟩, if_neg (by omega)] at h
      simp only [c2, decide_true, Bool.true_eq_false, if_false]
      exact .inl h
    · rw [if_neg fun z => c2 z.2] at h
      simp only [c2, decide_false, if_true]
      exact .inl h
  · rw [if_neg fun z => c1 z.1] at h
    rw [if_neg c1]
    exact .inl h

theorem len_Sheet_keys_at : ∀ ds W P X, c_Sheet_keys_at ds W P X → ds.length = 2 := by rintro ds W P X ⟨_, C, n, fp, ts, lo, k, rfl, _⟩; rfl
theorem f_Sheet_keys_at_1_ex  : ∃ f : MS, f = (sRet (mLC false [2] (M.bind (mMeth "keys_told" T_keys_told_1 (mVar 0) mNil) bIter) (gN 2) (mTest (mBin dNe (mMeth "line_of" T_line_of_3 (mVar 0) (mCons (mVar 2) (mCons (mVar 1) mNil))) (mLst false mNil))) (mVar 2))) := ⟨_, rfl⟩
noncomputable def f_Sheet_keys_at_1  : MS := Classical.choose (f_Sheet_keys_at_1_ex )
theorem f_Sheet_keys_at_1_eq  : f_Sheet_keys_at_1  = (sRet (mLC false [2] (M.bind (mMeth "keys_told" T_keys_told_1 (mVar 0) mNil) bIter) (gN 2) (mTest (mBin dNe (mMeth "line_of" T_line_of_3 (mVar 0) (mCons (mVar 2) (mCons (mVar 1) mNil))) (mLst false mNil))) (mVar 2))) := Classical.choose_spec (f_Sheet_keys_at_1_ex )
theorem f_Sheet_keys_at_ex  : ∃ f : MS, f = (sSeq (sExpr (mMeth "need_knowing" T_need_knowing_2 (mVar 0) (mCons (mVar 1) mNil))) f_Sheet_keys_at_1) := ⟨_, rfl⟩
noncomputable def f_Sheet_keys_at  : MS := Classical.choose (f_Sheet_keys_at_ex )
theorem f_Sheet_keys_at_eq  : f_Sheet_keys_at  = (sSeq (sExpr (mMeth "need_knowing" T_need_knowing_2 (mVar 0) (mCons (mVar 1) mNil))) f_Sheet_keys_at_1) := Classical.choose_spec (f_Sheet_keys_at_ex )

theorem pure_Sheet_keys_at : ∀ ds W P X, c_Sheet_keys_at ds W P X → f_Sheet_keys_at ⟨startA 3 ds, W⟩ (fEnds W P X) := by
  rintro ds W P X ⟨⟨n', r, C', e, hA, hC⟩, C, n, fp, ts, lo, k, rfl, sh, h⟩
  cases e
  obtain rfl := hA.eq sh.isA
  simp only [f_Sheet_keys_at_eq]
  walk_at "tw"
  refine sh.meth List.mem_cons_self ((by decide : ∀ C ∈ U_Sheet_keys_at, C ∈ UT_need_knowing_2_Sheet) _ hC) ?_
  walk_at "tw"
  refine ⟨sh.isA, C', n', fp, ts, lo, k, rfl, sh, h.imp (fun x hx => .inl hx) fun k0 k1 k2 h => ?_⟩
  simp only [f_Sheet_keys_at_1_eq]
  walk_at "tw"
  simp only [mLC]
  walk_at "tw"
  refine sh.meth List.mem_cons_self ((by decide : ∀ C ∈ U_Sheet_keys_at, C ∈ UT_keys_told_1_Sheet) _ hC) ?_
  walk_at "tw"
  refine ⟨sh.isA, C', n', fp, ts, lo, rfl, sh, ?_⟩
  walk_at "tw"
  have hz := keysOf_len ts
  have hzt := sh.zts
  refine lcL_map D.str (fun key => if lineOf (ts.take k.toNat) key ≠ [] then some (.str key) else none) (fun key hkey acc N q => ?_) (fun _ => trivial) (by simp [srtS_len]; omega) ?_
  · simp only [lcTurn]
    walk_at "tw"
    simp only [wipeA]
    walk_at "tw"
    have sh2 := sh.grow [O.lst acc]
    refine sh2.meth List.mem_cons_self ((by decide : ∀ C ∈ U_Sheet_keys_at, C ∈ UT_line_of_3_Sheet) _ hC) ?_
    walk_at "tw"
    refine ⟨sh2.isA, C', n', fp, ts, ts, lo, key, k.toNat, by rw [show ((k.toNat : Nat) : Int) = k by omega], sh2, by omega, by omega, .inl ?_⟩
    walk_at "tw"
    have ee : D.eqs ((lineOf (ts.take k.toNat) key).map rowD) [] = decide (lineOf (ts.take k.toNat) key = []) := eqs_rows _ []
    rw [ee]
    by_cases c : lineOf (ts.take k.toNat) key = []
    · rw [if_neg (by simp [c])] at q
      rw [if_neg (by simp [c])]
      exact q
    · rw [if_pos c] at q
      rw [if_pos (by simp [c])]
      exact q
  · have ef : (srtS (keysOf ts)).filterMap (fun key => if lineOf (ts.take k.toNat) key ≠ [] then some (D.str key) else none) = (keysAt ts k.toNat).map D.str := by
      unfold keysAt
      rw [← List.filterMap_eq_map, List.filterMap_filter]
      congr 1
      funext key
      simp
    rw [ef, List.nil_append]
    exact lcFin_hnd (Done.own0 (g2 := []) (bels_strs _ _) h)

theorem len_Sheet_knowings : ∀ ds W P X, c_Sheet_knowings ds W P X → ds.length = 1 := by rintro ds W P X ⟨_, C, n, fp, ts, lo, rfl, _⟩; rfl

theorem f_Sheet_knowings_ex  : ∃ f : MS, f = (sRet (M.bind (mCons (M.bind (mVar 0) (dFld "told_so" UF_told_so)) mNil) bLen)) := ⟨_, rfl⟩
noncomputable def f_Sheet_knowings  : MS := Classical.choose (f_Sheet_knowings_ex )
theorem f_Sheet_knowings_eq  : f_Sheet_knowings  = (sRet (M.bind (mCons (M.bind (mVar 0) (dFld "told_so" UF_told_so)) mNil) bLen)) := Classical.choose_spec (f_Sheet_knowings_ex )

theorem pure_Sheet_knowings : ∀ ds W P X, c_Sheet_knowings ds W P X → f_Sheet_knowings ⟨startA 1 ds, W⟩ (fEnds W P X) := by
  rintro ds W P X ⟨⟨n', r, C', e, hA, hC⟩, C, n, fp, ts, lo, rfl, sh, h⟩
  cases e
  obtain rfl := hA.eq sh.isA
  obtain ⟨a, c, hs, xs, _, _, _, w1, w2, _⟩ := sh.ex
  simp only [f_Sheet_knowings_eq]
  walk_at "tw"
  refine fld_go w1 shF_told ((by decide : ∀ C ∈ U_Sheet_knowings, C ∈ UF_told_so) _ hC) ?_
  walk_at "tw"
  simp only [w2, List.length_map]
  exact .inl h

def c_is_name : FC := fun ds W P _ => ∃ d, ds = [d] ∧ plainD d = true ∧ P (.bl (isNm d)) W
theorem len_is_name : ∀ ds W P X, c_is_name ds W P X → ds.length = 1 := by rintro ds W P X ⟨a, rfl, _⟩; rfl
theorem f_is_name_1_ex  : ∃ f : MS, f = (sIf (mTest (mBin (dIn true) (mVar 1) (mC (.str "abcdefghijklmnopqrstuvwxyz")))) (sRet (mC (.bl false))) sNext) := ⟨_, rfl⟩
noncomputable def f_is_name_1  : MS := Classical.choose (f_is_name_1_ex )
theorem f_is_name_1_eq  : f_is_name_1  = (sIf (mTest (mBin (dIn true) (mVar 1) (mC (.str "abcdefghijklmnopqrstuvwxyz")))) (sRet (mC (.bl false))) sNext) := Classical.choose_spec (f_is_name_1_ex )
theorem f_is_name_2_ex  : ∃ f : MS, f = (sRet (mC (.bl true))) := ⟨_, rfl⟩
noncomputable def f_is_name_2  : MS := Classical.choose (f_is_name_2_ex )
theorem f_is_name_2_eq  : f_is_name_2  = (sRet (mC (.bl true))) := Classical.choose_spec (f_is_name_2_ex )
theorem f_is_name_3_ex  : ∃ f : MS, f = (sSeq (sFor (M.bind (mVar 0) bIter) (gN 1) f_is_name_1) f_is_name_2) := ⟨_, rfl⟩
noncomputable def f_is_name_3  : MS := Classical.choose (f_is_name_3_ex )
theorem f_is_name_3_eq  : f_is_name_3  = (sSeq (sFor (M.bind (mVar 0) bIter) (gN 1) f_is_name_1) f_is_name_2) := Classical.choose_spec (f_is_name_3_ex )
theorem f_is_name_ex  : ∃ f : MS, f = (sSeq (sIf (mOr (mNot (mTest (M.bind (mCons (mVar 0) (mCons (mC (.ty "str")) mNil)) bIsi))) (mNot (mTest (mChain dLe dLe (mC (.int 1)) (M.bind (mCons (mVar 0) mNil) bLen) (mC (.int 8)))))) (sRet (mC (.bl false))) sNext) f_is_name_3) := ⟨_, rfl⟩
noncomputable def f_is_name  : MS := Classical.choose (f_is_name_ex )
theorem f_is_name_eq  : f_is_name  = (sSeq (sIf (mOr (mNot (mTest (M.bind (mCons (mVar 0) (mCons (mC (.ty "str")) mNil)) bIsi))) (mNot (mTest (mChain dLe dLe (mC (.int 1)) (M.bind (mCons (mVar 0) mNil) bLen) (mC (.int 8)))))) (sRet (mC (.bl false))) sNext) f_is_name_3) := Classical.choose_spec (f_is_name_ex )

theorem pure_is_name : ∀ ds W P X, c_is_name ds W P X → f_is_name ⟨startA 2 ds, W⟩ (fEnds W P X) := by
  rintro ds W P X ⟨d, rfl, hd, h⟩
  simp only [f_is_name_eq]
  cases d <;> first
    | (simp [plainD] at hd; done)
    | (walk_at "tw"; exact .inl h)
    | skip
  rename_i s
  simp only [plainD, decide_eq_true_eq] at hd
  walk_at "tw"
  simp only [isNm, isNameS] at h
  refine ⟨sz_small hd, ?_⟩
  split
  · rename_i c1
    have l1 : 1 ≤ s.length := by omega
    split
    · rename_i c2
      have : ¬ s.length ≤ 8 := by omega
      exact .inl (by simpa [this] using h)
    · rename_i c2
      have l8 : s.length ≤ 8 := by omega
      simp only [f_is_name_3_eq]
      walk_at "tw"
      have h3 : P (.bl (lowS s)) W := by simpa [l1, l8] using h
      unfold lowS at h3
      generalize s.cps.toList = l at h3 ⊢
      refine loop_ind (fun c => D.str ⟨#[c]⟩) (fun pre S => pre.all isSmall = true ∧ ∃ s1, S = ⟨[some (D.str s), s1], W⟩) l ⟨rfl, none, rfl⟩ (fun _ _ _ => trivial) ?_ ?_
      · rintro pre x post S hall ⟨hp, s1, rfl⟩ N hN
        simp only [f_is_name_1_eq]
        walk_at "tw"
        cases e : isSmall x with
        | true =>
          walk_at "tw"
          exact hN _ ⟨by simp [hp, e], _, rfl⟩
        | false =>
          walk_at "tw"
          have : l.all isSmall = false := by rw [hall]; simp [e]
          rw [this] at h3
          exact .inl h3
      · rintro S ⟨hp, s1, rfl⟩
        simp only [f_is_name_2_eq]
        walk_at "tw"
        rw [hp] at h3
        exact .inl h3
  · rename_i c1
    have : ¬ 1 ≤ s.length := by omega
    exact .inl (by simpa [this] using h)

theorem len_Sheet_need_key : ∀ ds W P X, c_Sheet_need_key ds W P X → ds.length = 2 := by rintro ds W P X ⟨_, n, d, rfl, _⟩; rfl

theorem f_Sheet_need_key_ex  : ∃ f : MS, f = (sIf (mNot (mTest (mCall c_is_name (mCons (mVar 1) mNil)))) (sRaise0 "NoName") sNext) := ⟨_, rfl⟩
noncomputable def f_Sheet_need_key  : MS := Classical.choose (f_Sheet_need_key_ex )
theorem f_Sheet_need_key_eq  : f_Sheet_need_key  = (sIf (mNot (mTest (mCall c_is_name (mCons (mVar 1) mNil)))) (sRaise0 "NoName") sNext) := Classical.choose_spec (f_Sheet_need_key_ex )

theorem pure_Sheet_need_key : ∀ ds W P X, c_Sheet_need_key ds W P X → f_Sheet_need_key ⟨startA 2 ds, W⟩ (fEnds W P X) := by
  rintro ds W P X ⟨_, n, d, rfl, hd, h⟩
  simp only [f_Sheet_need_key_eq]
  walk_at "tw"
  refine ⟨d, rfl, hd, ?_⟩
  simp only
  cases e : isNm d with
  | true => rw [e] at h; exact .inl h
  | false => rw [e] at h; exact .inl h

theorem len_Sheet_line_at : ∀ ds W P X, c_Sheet_line_at ds W P X → ds.length = 3 := by rintro ds W P X ⟨_, C, n, fp, ts, lo, kd, k, rfl, _⟩; rfl
theorem f_Sheet_line_at_1_ex  : ∃ f : MS, f = (sRet (mMeth "line_of" T_line_of_3 (mVar 0) (mCons (mVar 1) (mCons (mVar 2) mNil)))) := ⟨_, rfl⟩
noncomputable def f_Sheet_line_at_1  : MS := Classical.choose (f_Sheet_line_at_1_ex )
theorem f_Sheet_line_at_1_eq  : f_Sheet_line_at_1  = (sRet (mMeth "line_of" T_line_of_3 (mVar 0) (mCons (mVar 1) (mCons (mVar 2) mNil)))) := Classical.choose_spec (f_Sheet_line_at_1_ex )
theorem f_Sheet_line_at_2_ex  : ∃ f : MS, f = (sSeq (sExpr (mMeth "need_key" T_need_key_2 (mVar 0) (mCons (mVar 1) mNil))) f_Sheet_line_at_1) := ⟨_, rfl⟩
noncomputable def f_Sheet_line_at_2  : MS := Classical.choose (f_Sheet_line_at_2_ex )
theorem f_Sheet_line_at_2_eq  : f_Sheet_line_at_2  = (sSeq (sExpr (mMeth "need_key" T_need_key_2 (mVar 0) (mCons (mVar 1) mNil))) f_Sheet_line_at_1) := Classical.choose_spec (f_Sheet_line_at_2_ex )
theorem f_Sheet_line_at_ex  : ∃ f : MS, f = (sSeq (sExpr (mMeth "need_knowing" T_need_knowing_2 (mVar 0) (mCons (mVar 2) mNil))) f_Sheet_line_at_2) := ⟨_, rfl⟩
noncomputable def f_Sheet_line_at  : MS := Classical.choose (f_Sheet_line_at_ex )
theorem f_Sheet_line_at_eq  : f_Sheet_line_at  = (sSeq (sExpr (mMeth "need_knowing" T_need_knowing_2 (mVar 0) (mCons (mVar 2) mNil))) f_Sheet_line_at_2) := Classical.choose_spec (f_Sheet_line_at_ex )

theorem pure_Sheet_line_at : ∀ ds W P X, c_Sheet_line_at ds W P X → f_Sheet_line_at ⟨startA 3 ds, W⟩ (fEnds W P X) := by
  rintro ds W P X ⟨⟨n', r, C', e, hA, hC⟩, C, n, fp, ts, lo, kd, k, rfl, hkd, sh, h⟩
  cases e
  obtain rfl := hA.eq sh.isA
  simp only [f_Sheet_line_at_eq]
  walk_at "tw"
  refine sh.meth List.mem_cons_self ((by decide : ∀ C ∈ U_Sheet_line_at, C ∈ UT_need_knowing_2_Sheet) _ hC) ?_
  walk_at "tw"
  refine ⟨sh.isA, C', n', fp, ts, lo, k, rfl, sh, h.imp (fun x hx => .inl hx) fun k0 k1 k2 h => ?_⟩
  simp only [f_Sheet_line_at_2_eq]
  walk_at "tw"
  refine sh.meth List.mem_cons_self ((by decide : ∀ C ∈ U_Sheet_line_at, C ∈ UT_need_key_2_Sheet) _ hC) ?_
  walk_at "tw"
  refine ⟨sh.isA, n', kd, rfl, hkd, ?_⟩
  split
  · rename_i hn
    rw [if_pos hn] at h
    obtain ⟨key, rfl, _⟩ := isNm_str hn
    have h := h key rfl
    simp only [f_Sheet_line_at_1_eq]
    walk_at "tw"
    refine sh.meth List.mem_cons_self ((by decide : ∀ C ∈ U_Sheet_line_at, C ∈ UT_line_of_3_Sheet) _ hC) ?_
    walk_at "tw"
    exact ⟨sh.isA, C', n', fp, ts, ts, lo, key, k.toNat, by rw [show ((k.toNat : Nat) : Int) = k by omega], sh, by omega, by omega, lstR_done h⟩
  · rename_i hn
    rw [if_neg hn] at h
    exact .inl h

def c_earlier_end : FC := fun ds W P _ => ∃ a b : Option Int, ds = [oD a, oD b] ∧ P (oD (earlierEnd a b)) W
theorem len_earlier_end : ∀ ds W P X, c_earlier_end ds W P X → ds.length = 2 := by rintro ds W P X ⟨a, b, rfl, _⟩; rfl
theorem f_earlier_end_1_ex  : ∃ f : MS, f = (sRet (M.bind (mCons (mVar 0) (mCons (mVar 1) mNil)) bMin)) := ⟨_, rfl⟩
noncomputable def f_earlier_end_1  : MS := Classical.choose (f_earlier_end_1_ex )
theorem f_earlier_end_1_eq  : f_earlier_end_1  = (sRet (M.bind (mCons (mVar 0) (mCons (mVar 1) mNil)) bMin)) := Classical.choose_spec (f_earlier_end_1_ex )
theorem f_earlier_end_2_ex  : ∃ f : MS, f = (sSeq (sIf (mTest (mBin (dIs false) (mVar 1) (mC .non))) (sRet (mVar 0)) sNext) f_earlier_end_1) := ⟨_, rfl⟩
noncomputable def f_earlier_end_2  : MS := Classical.choose (f_earlier_end_2_ex )
theorem f_earlier_end_2_eq  : f_earlier_end_2  = (sSeq (sIf (mTest (mBin (dIs false) (mVar 1) (mC .non))) (sRet (mVar 0)) sNext) f_earlier_end_1) := Classical.choose_spec (f_earlier_end_2_ex )
theorem f_earlier_end_ex  : ∃ f : MS, f = (sSeq (sIf (mTest (mBin (dIs false) (mVar 0) (mC .non))) (sRet (mVar 1)) sNext) f_earlier_end_2) := ⟨_, rfl⟩
noncomputable def f_earlier_end  : MS := Classical.choose (f_earlier_end_ex )
theorem f_earlier_end_eq  : f_earlier_end  = (sSeq (sIf (mTest (mBin (dIs false) (mVar 0) (mC .non))) (sRet (mVar 1)) sNext) f_earlier_end_2) := Classical.choose_spec (f_earlier_end_ex )

theorem pure_earlier_end : ∀ ds W P X, c_earlier_end ds W P X → f_earlier_end ⟨startA 2 ds, W⟩ (fEnds W P X) := by
  rintro ds W P X ⟨a, b, rfl, h⟩
  cases a <;> cases b <;> simp only [f_earlier_end_eq, f_earlier_end_1_eq, f_earlier_end_2_eq] <;> walk_at "tw"
  · exact .inl h
  · exact .inl h
  · exact .inl h
  · rw [min_if]; exact .inl h

def c_common : FC := fun ds W P _ => ∃ a b : Strt, ds = [stD a, stD b] ∧ P (ostD (common a b)) W
theorem len_common : ∀ ds W P X, c_common ds W P X → ds.length = 2 := by rintro ds W P X ⟨a, b, rfl, _⟩; rfl
theorem f_common_1_ex  : ∃ f : MS, f = (sRet (mTup (mCons (mVar 2) (mCons (mVar 3) mNil)))) := ⟨_, rfl⟩
noncomputable def f_common_1  : MS := Classical.choose (f_common_1_ex )
theorem f_common_1_eq  : f_common_1  = (sRet (mTup (mCons (mVar 2) (mCons (mVar 3) mNil)))) := Classical.choose_spec (f_common_1_ex )
theorem f_common_2_ex  : ∃ f : MS, f = (sSeq (sIf (mAnd (mTest (mBin (dIs true) (mVar 3) (mC .non))) (mTest (mBin dLe (mVar 3) (mVar 2)))) (sRet (mC .non)) sNext) f_common_1) := ⟨_, rfl⟩
noncomputable def f_common_2  : MS := Classical.choose (f_common_2_ex )
theorem f_common_2_eq  : f_common_2  = (sSeq (sIf (mAnd (mTest (mBin (dIs true) (mVar 3) (mC .non))) (mTest (mBin dLe (mVar 3) (mVar 2)))) (sRet (mC .non)) sNext) f_common_1) := Classical.choose_spec (f_common_2_ex )
theorem f_common_3_ex  : ∃ f : MS, f = (sSeq (sSet 3 (mCall c_earlier_end (mCons (mBin dIx (mVar 0) (mC (.int 1))) (mCons (mBin dIx (mVar 1) (mC (.int 1))) mNil)))) f_common_2) := ⟨_, rfl⟩
noncomputable def f_common_3  : MS := Classical.choose (f_common_3_ex )
theorem f_common_3_eq  : f_common_3  = (sSeq (sSet 3 (mCall c_earlier_end (mCons (mBin dIx (mVar 0) (mC (.int 1))) (mCons (mBin dIx (mVar 1) (mC (.int 1))) mNil)))) f_common_2) := Classical.choose_spec (f_common_3_ex )
theorem f_common_ex  : ∃ f : MS, f = (sSeq (sSet 2 (M.bind (mCons (mBin dIx (mVar 0) (mC (.int 0))) (mCons (mBin dIx (mVar 1) (mC (.int 0))) mNil)) bMax)) f_common_3) := ⟨_, rfl⟩
noncomputable def f_common  : MS := Classical.choose (f_common_ex )
theorem f_common_eq  : f_common  = (sSeq (sSet 2 (M.bind (mCons (mBin dIx (mVar 0) (mC (.int 0))) (mCons (mBin dIx (mVar 1) (mC (.int 0))) mNil)) bMax)) f_common_3) := Classical.choose_spec (f_common_ex )

theorem pure_common : ∀ ds W P X, c_common ds W P X → f_common ⟨startA 4 ds, W⟩ (fEnds W P X) := by
  rintro ds W P X ⟨⟨a, a2⟩, ⟨b, b2⟩, rfl, h⟩
  simp only [f_common_eq, f_common_1_eq, f_common_2_eq, f_common_3_eq, stD]
  walk_at "tw"
  refine ⟨_, _, rfl, ?_⟩
  unfold common at h
  simp only at h
  cases e : earlierEnd a2 b2 with
  | none =>
    simp only [e] at h
    walk_at "tw"
    exact .inl (by rw [max_if]; exact h)
  | some m =>
    simp only [e] at h
    walk_at "tw"
    rw [max_if]
    split at h
    · rename_i c
      rw [if_pos c]
      exact .inl h
    · rename_i c
      rw [if_neg c]
      exact .inl h

def c_cut_to : FC := fun ds W P _ => ∃ (dl : D) (l : List LRow) (b : Int) (e : Option Int), ds = [dl, .int b, oD e] ∧ rdM W dl = some (l.map rowD) ∧ (∀ r ∈ l, r.2.2 ≠ []) ∧ l.length ≤ 100000 ∧ (∀ r ∈ l, r.2.2.length ≤ 1000) ∧ lstR P W ((cutL l b e).map rowD)
theorem len_cut_to : ∀ ds W P X, c_cut_to ds W P X → ds.length = 3 := by rintro ds W P X ⟨n, c, b, e, rfl, _⟩; rfl
theorem f_cut_to_1_ex  : ∃ f : MS, f = (sIf (mTest (mBin (dIs true) (mVar 5) (mC .non))) (sExpr (mMt isLst gAppend (mVar 3) (mCons (mBin (dAdd false) (mVar 5) (mSl false (mVar 4) (mPart (mC (.int 2))) mNoPart)) mNil))) sNext) := ⟨_, rfl⟩
noncomputable def f_cut_to_1  : MS := Classical.choose (f_cut_to_1_ex )
theorem f_cut_to_1_eq  : f_cut_to_1  = (sIf (mTest (mBin (dIs true) (mVar 5) (mC .non))) (sExpr (mMt isLst gAppend (mVar 3) (mCons (mBin (dAdd false) (mVar 5) (mSl false (mVar 4) (mPart (mC (.int 2))) mNoPart)) mNil))) sNext) := Classical.choose_spec (f_cut_to_1_ex )
theorem f_cut_to_2_ex  : ∃ f : MS, f = (sSeq (sSet 5 (mCall c_common (mCons (mSl false (mVar 4) mNoPart (mPart (mC (.int 2)))) (mCons (mTup (mCons (mVar 1) (mCons (mVar 2) mNil))) mNil)))) f_cut_to_1) := ⟨_, rfl⟩
noncomputable def f_cut_to_2  : MS := Classical.choose (f_cut_to_2_ex )
theorem f_cut_to_2_eq  : f_cut_to_2  = (sSeq (sSet 5 (mCall c_common (mCons (mSl false (mVar 4) mNoPart (mPart (mC (.int 2)))) (mCons (mTup (mCons (mVar 1) (mCons (mVar 2) mNil))) mNil)))) f_cut_to_1) := Classical.choose_spec (f_cut_to_2_ex )
theorem f_cut_to_3_ex  : ∃ f : MS, f = (sRet (mVar 3)) := ⟨_, rfl⟩
noncomputable def f_cut_to_3  : MS := Classical.choose (f_cut_to_3_ex )
theorem f_cut_to_3_eq  : f_cut_to_3  = (sRet (mVar 3)) := Classical.choose_spec (f_cut_to_3_ex )
theorem f_cut_to_4_ex  : ∃ f : MS, f = (sSeq (sFor (M.bind (mVar 0) bIter) (gN 4) f_cut_to_2) f_cut_to_3) := ⟨_, rfl⟩
noncomputable def f_cut_to_4  : MS := Classical.choose (f_cut_to_4_ex )
theorem f_cut_to_4_eq  : f_cut_to_4  = (sSeq (sFor (M.bind (mVar 0) bIter) (gN 4) f_cut_to_2) f_cut_to_3) := Classical.choose_spec (f_cut_to_4_ex )
theorem f_cut_to_ex  : ∃ f : MS, f = (sSeq (sSet 3 (mLst true mNil)) f_cut_to_4) := ⟨_, rfl⟩
noncomputable def f_cut_to  : MS := Classical.choose (f_cut_to_ex )
theorem f_cut_to_eq  : f_cut_to  = (sSeq (sSet 3 (mLst true mNil)) f_cut_to_4) := Classical.choose_spec (f_cut_to_ex )

theorem pure_cut_to : ∀ ds W P X, c_cut_to ds W P X → f_cut_to ⟨startA 6 ds, W⟩ (fEnds W P X) := by
  rintro ds W P X ⟨dl, l, b, e, rfl, hl, ht, hz, hz2, h⟩
  simp only [f_cut_to_eq, f_cut_to_4_eq]
  walk_at "tw"
  refine bIter_rd (rdM_app hl _) ⟨rdM_rdS (rdM_app hl _), ?_⟩
  refine loop_ind rowD (fun pre S => ∃ s4 s5, S = ⟨[some dl, some (.int b), some (oD e), some (.hnd W.length), s4, s5], W ++ [.lst ((cutL pre b e).map rowD)]⟩) l ⟨none, none, rfl⟩ ?_ ?_ ?_
  · rintro pre S ⟨s4, s5, rfl⟩
    exact rdM_rdS (rdM_app hl _)
  · rintro pre ⟨rb, re, t⟩ post S hall ⟨s4, s5, rfl⟩ N hN
    have hpl : pre.length < l.length := by rw [hall]; simp
    obtain ⟨o, t, rfl⟩ := List.exists_cons_of_ne_nil (ht (rb, re, t) (by rw [hall]; simp))
    rw [rowD_eq]
    simp only [f_cut_to_2_eq]
    walk_at "tw"
    refine ⟨(rb, re), (b, e), rfl, ?_⟩
    have hc : cutL (pre ++ [(rb, re, o :: t)]) b e = cutL pre b e ++ (match cutRow (b, e) (rb, re, o :: t) with
      | some r => [r]
      | none => []) := by
      unfold cutL
      rw [List.filterMap_append]
      congr
      simp only [List.filterMap_cons, List.filterMap_nil]
      cases cutRow (b, e) (rb, re, o :: t) <;> rfl
    have hcl := cutL_len pre b e
    simp only [cutRow, rst] at hc
    simp only [f_cut_to_1_eq]
    cases h1 : common (rb, re) (b, e) with
    | none =>
      rw [h1] at hc
      simp only [Option.map_none, List.append_nil] at hc
      simp only [ostD]
      walk_at "tw"
      exact hN _ ⟨_, _, by rw [hc]⟩
    | some s =>
      obtain ⟨sb, se⟩ := s
      rw [h1] at hc
      simp only [Option.map_some] at hc
      simp only [ostD, stD]
      walk_at "tw"
      have ht2 := hz2 (rb, re, o :: t) (by rw [hall]; simp)
      simp only [List.length_cons] at ht2
      refine ⟨by simp, sz_small (by omega), sz_lt (by omega), hN _ ⟨some (rowD (rb, re, o :: t)), some (.tup [.int sb, oD se]), ?_⟩⟩
      rw [hc, List.map_append]
      rfl
  · rintro S ⟨s4, s5, rfl⟩
    simp only [f_cut_to_3_eq]
    walk_at "tw"
    exact Done.own0 (bels_rows _ _) h

def c_with_neighbours_joined : FC := fun ds W P _ => ∃ (q : Ep) (dl : D) (l : List LRow), ds = [dl] ∧ rdM W dl = some (l.map (rowX q)) ∧ (∀ r ∈ l, r.2.2 ≠ []) ∧ l.length ≤ 100000 ∧ (∀ r ∈ l, r.2.2.length ≤ 1000) ∧ lstR P W ((joinL l).map (rowX q))
theorem len_with_neighbours_joined : ∀ ds W P X, c_with_neighbours_joined ds W P X → ds.length = 1 := by rintro ds W P X ⟨q, n, c, rfl, _⟩; rfl
theorem f_with_neighbours_joined_1_ex  : ∃ f : MS, f = (sIf (mAnd (mTest (mBin dNe (mVar 1) (mLst false mNil))) (mAnd (mTest (mBin dEq (mBin dIx (mBin dIx (mVar 1) (M.bind (mC (.int 1)) dNeg)) (mC (.int 1))) (mBin dIx (mVar 2) (mC (.int 0))))) (mTest (mBin dEq (mSl false (mBin dIx (mVar 1) (M.bind (mC (.int 1)) dNeg)) (mPart (mC (.int 2))) mNoPart) (mSl false (mVar 2) (mPart (mC (.int 2))) mNoPart))))) (sAsg (gSub (mVar 1) (M.bind (mC (.int 1)) dNeg)) (mBin (dAdd false) (mTup (mCons (mBin dIx (mBin dIx (mVar 1) (M.bind (mC (.int 1)) dNeg)) (mC (.int 0))) mNil)) (mSl false (mVar 2) (mPart (mC (.int 1))) mNoPart))) (sExpr (mMt isLst gAppend (mVar 1) (mCons (mVar 2) mNil)))) := ⟨_, rfl⟩
noncomputable def f_with_neighbours_joined_1  : MS := Classical.choose (f_with_neighbours_joined_1_ex )
theorem f_with_neighbours_joined_1_eq  : f_with_neighbours_joined_1  = (sIf (mAnd (mTest (mBin dNe (mVar 1) (mLst false mNil))) (mAnd (mTest (mBin dEq (mBin dIx (mBin dIx (mVar 1) (M.bind (mC (.int 1)) dNeg)) (mC (.int 1))) (mBin dIx (mVar 2) (mC (.int 0))))) (mTest (mBin dEq (mSl false (mBin dIx (mVar 1) (M.bind (mC (.int 1)) dNeg)) (mPart (mC (.int 2))) mNoPart) (mSl false (mVar 2) (mPart (mC (.int 2))) mNoPart))))) (sAsg (gSub (mVar 1) (M.bind (mC (.int 1)) dNeg)) (mBin (dAdd false) (mTup (mCons (mBin dIx (mBin dIx (mVar 1) (M.bind (mC (.int 1)) dNeg)) (mC (.int 0))) mNil)) (mSl false (mVar 2) (mPart (mC (.int 1))) mNoPart))) (sExpr (mMt isLst gAppend (mVar 1) (mCons (mVar 2) mNil)))) := Classical.choose_spec (f_with_neighbours_joined_1_ex )
theorem f_with_neighbours_joined_2_ex  : ∃ f : MS, f = (sRet (mVar 1)) := ⟨_, rfl⟩
noncomputable def f_with_neighbours_joined_2  : MS := Classical.choose (f_with_neighbours_joined_2_ex )
theorem f_with_neighbours_joined_2_eq  : f_with_neighbours_joined_2  = (sRet (mVar 1)) := Classical.choose_spec (f_with_neighbours_joined_2_ex )
theorem f_with_neighbours_joined_3_ex  : ∃ f : MS, f = (sSeq (sFor (M.bind (mVar 0) bIter) (gN 2) f_with_neighbours_joined_1) f_with_neighbours_joined_2) := ⟨_, rfl⟩
noncomputable def f_with_neighbours_joined_3  : MS := Classical.choose (f_with_neighbours_joined_3_ex )
theorem f_with_neighbours_joined_3_eq  : f_with_neighbours_joined_3  = (sSeq (sFor (M.bind (mVar 0) bIter) (gN 2) f_with_neighbours_joined_1) f_with_neighbours_joined_2) := Classical.choose_spec (f_with_neighbours_joined_3_ex )
theorem f_with_neighbours_joined_ex  : ∃ f : MS, f = (sSeq (sSet 1 (mLst true mNil)) f_with_neighbours_joined_3) := ⟨_, rfl⟩
noncomputable def f_with_neighbours_joined  : MS := Classical.choose (f_with_neighbours_joined_ex )
theorem f_with_neighbours_joined_eq  : f_with_neighbours_joined  = (sSeq (sSet 1 (mLst true mNil)) f_with_neighbours_joined_3) := Classical.choose_spec (f_with_neighbours_joined_ex )

theorem pure_with_neighbours_joined : ∀ ds W P X, c_with_neighbours_joined ds W P X → f_with_neighbours_joined ⟨startA 3 ds, W⟩ (fEnds W P X) := by
  rintro ds W P X ⟨q, dl, l, rfl, hl, ht, hz, hz2, h⟩
  simp only [f_with_neighbours_joined_eq, f_with_neighbours_joined_3_eq]
  walk_at "tw"
  refine bIter_rd (rdM_app hl _) ⟨rdM_rdS (rdM_app hl _), ?_⟩
  refine loop_ind (rowX q) (fun pre S => ∃ s2, S = ⟨[some dl, some (.hnd W.length), s2], W ++ [.lst ((pre.foldl joinStep []).map (rowX q))]⟩) l ⟨none, rfl⟩ ?_ ?_ ?_
  · rintro pre S ⟨s2, rfl⟩
    exact rdM_rdS (rdM_app hl _)
  · rintro pre ⟨rb, re, t⟩ post S hall ⟨s2, rfl⟩ N hN
    have hpl : pre.length < l.length := by rw [hall]; simp
    obtain ⟨o, t, rfl⟩ := List.exists_cons_of_ne_nil (ht (rb, re, t) (by rw [hall]; simp))
    have hst : (pre ++ [(rb, re, o :: t)]).foldl joinStep [] = joinStep (pre.foldl joinStep []) (rb, re, o :: t) := by rw [List.foldl_append]; rfl
    have hfl : (pre.foldl joinStep []).length ≤ pre.length := by rw [join_eq]; exact joinL_len pre
    generalize pre.foldl joinStep [] = found at hst hfl ⊢
    simp only [f_with_neighbours_joined_1_eq]
    rcases snoc_cases found with rfl | ⟨p, c, rfl⟩
    · rw [rowX_eq]
      walk_at "tw"
      refine ⟨sz_lt (by decide), hN _ ⟨_, by rw [hst]; rfl⟩⟩
    · obtain ⟨cb, ce, ct⟩ := c
      rw [joinStep_snoc] at hst
      rw [List.map_append, List.map_singleton, rowX_eq, rowX_eq]
      walk_at "tw"
      simp only [List.length_append, List.length_singleton] at hfl
      have ht2 := hz2 (rb, re, o :: t) (by rw [hall]; simp)
      simp only [List.length_cons] at ht2
      have hlay : D.lays 59 (p.map (rowX q) ++ [D.tup (D.int cb :: oD ce :: ct.map (oX q))]) = true := by
        have := lays_rowX 57 q (p ++ [(cb, ce, ct)])
        rw [List.map_append, List.map_singleton, rowX_eq] at this
        exact this
      refine ⟨hlay, ?_⟩
      simp only at hst
      split
      · rename_i c1
        split
        · rename_i c2
          rw [if_pos ⟨by simpa using c1, by simpa using c2⟩] at hst
          refine ⟨by simp, sz_small (by omega), hN _ ⟨some (rowX q (rb, re, o :: t)), ?_⟩⟩
          have := set_last (p.map (rowX q)) (D.tup (D.int cb :: oD ce :: ct.map (oX q))) (D.tup (D.int cb :: oD re :: oX q o :: t.map (oX q)))
          rw [List.length_map] at this
          rw [this, hst, List.map_append]
          rfl
        · rename_i c2
          rw [if_neg (fun z => c2 (by simpa using z.2))] at hst
          refine ⟨sz_lt (by omega), hN _ ⟨some (rowX q (rb, re, o :: t)), ?_⟩⟩
          rw [hst, List.append_assoc, List.map_append]
          rfl
      · rename_i c1
        rw [if_neg (fun z => c1 (by simpa using z.1))] at hst
        refine ⟨sz_lt (by omega), hN _ ⟨some (rowX q (rb, re, o :: t)), ?_⟩⟩
        rw [hst, List.append_assoc, List.map_append]
        rfl
  · rintro S ⟨s2, rfl⟩
    simp only [f_with_neighbours_joined_2_eq]
    walk_at "tw"
    rw [join_eq]
    exact Done.own0 (bels_rowX _ _ _) h

def c_put_on : FC := fun ds W P _ => ∃ (dl : D) (l : List LRow) (b : Int) (e : Option Int) (w : Option Str), ds = [dl, .int b, oD e, oS w] ∧ rdM W dl = some (l.map rowD) ∧ Sing l ∧ l.length ≤ 10000 ∧ lstR P W ((putL l b e (tl w)).map rowD)
theorem len_put_on : ∀ ds W P X, c_put_on ds W P X → ds.length = 4 := by rintro ds W P X ⟨n, c, b, e, w, rfl, _⟩; rfl
theorem f_put_on_1_ex  : ∃ f : MS, f = (sRet (mCall c_with_neighbours_joined (mCons (mVar 4) mNil))) := ⟨_, rfl⟩
noncomputable def f_put_on_1  : MS := Classical.choose (f_put_on_1_ex )
theorem f_put_on_1_eq  : f_put_on_1  = (sRet (mCall c_with_neighbours_joined (mCons (mVar 4) mNil))) := Classical.choose_spec (f_put_on_1_ex )
theorem f_put_on_2_ex  : ∃ f : MS, f = (sSeq (sIf (mTest (mBin (dIs true) (mVar 2) (mC .non))) (sExpr (mMt isLst gExtend (mVar 4) (mCons (mCall c_cut_to (mCons (mVar 0) (mCons (mVar 2) (mCons (mC .non) mNil)))) mNil))) sNext) f_put_on_1) := ⟨_, rfl⟩
noncomputable def f_put_on_2  : MS := Classical.choose (f_put_on_2_ex )
theorem f_put_on_2_eq  : f_put_on_2  = (sSeq (sIf (mTest (mBin (dIs true) (mVar 2) (mC .non))) (sExpr (mMt isLst gExtend (mVar 4) (mCons (mCall c_cut_to (mCons (mVar 0) (mCons (mVar 2) (mCons (mC .non) mNil)))) mNil))) sNext) f_put_on_1) := Classical.choose_spec (f_put_on_2_ex )
theorem f_put_on_3_ex  : ∃ f : MS, f = (sSeq (sIf (mTest (mBin (dIs true) (mVar 3) (mC .non))) (sExpr (mMt isLst gAppend (mVar 4) (mCons (mTup (mCons (mVar 1) (mCons (mVar 2) (mCons (mVar 3) mNil)))) mNil))) sNext) f_put_on_2) := ⟨_, rfl⟩
noncomputable def f_put_on_3  : MS := Classical.choose (f_put_on_3_ex )
theorem f_put_on_3_eq  : f_put_on_3  = (sSeq (sIf (mTest (mBin (dIs true) (mVar 3) (mC .non))) (sExpr (mMt isLst gAppend (mVar 4) (mCons (mTup (mCons (mVar 1) (mCons (mVar 2) (mCons (mVar 3) mNil)))) mNil))) sNext) f_put_on_2) := Classical.choose_spec (f_put_on_3_ex )
theorem f_put_on_4_ex  : ∃ f : MS, f = (sSeq (sIf (mTest (mBin dGt (mVar 1) (mC (.int 0)))) (sExpr (mMt isLst gExtend (mVar 4) (mCons (mCall c_cut_to (mCons (mVar 0) (mCons (mC (.int 0)) (mCons (mVar 1) mNil)))) mNil))) sNext) f_put_on_3) := ⟨_, rfl⟩
noncomputable def f_put_on_4  : MS := Classical.choose (f_put_on_4_ex )
theorem f_put_on_4_eq  : f_put_on_4  = (sSeq (sIf (mTest (mBin dGt (mVar 1) (mC (.int 0)))) (sExpr (mMt isLst gExtend (mVar 4) (mCons (mCall c_cut_to (mCons (mVar 0) (mCons (mC (.int 0)) (mCons (mVar 1) mNil)))) mNil))) sNext) f_put_on_3) := Classical.choose_spec (f_put_on_4_ex )
theorem f_put_on_ex  : ∃ f : MS, f = (sSeq (sSet 4 (mLst true mNil)) f_put_on_4) := ⟨_, rfl⟩
noncomputable def f_put_on  : MS := Classical.choose (f_put_on_ex )
theorem f_put_on_eq  : f_put_on  = (sSeq (sSet 4 (mLst true mNil)) f_put_on_4) := Classical.choose_spec (f_put_on_ex )

theorem pure_put_on : ∀ ds W P X, c_put_on ds W P X → f_put_on ⟨startA 5 ds, W⟩ (fEnds W P X) := by
  rintro ds W P X ⟨dl, l, b, e, w, rfl, hl, hs, hz, h⟩
  simp only [f_put_on_eq]
  walk_at "tw"
  have key1 : ∀ rows : List LRow, Sing rows → rows.length ≤ 30000 → joinL rows = putL l b e (tl w) → f_put_on_1 ⟨[some dl, some (.int b), some (oD e), some (oS w), some (.hnd W.length)], W ++ [.lst (rows.map rowD)]⟩ (fEnds W P X) := by
    intro rows h1 h2 h3
    simp only [f_put_on_1_eq]
    walk_at "tw"
    refine ⟨.s, .hnd W.length, rows, rfl, by rw [rowX_S]; exact rdM_hnd (Tw.get_own _ _ _), h1.ne.1, by omega, h1.ne.2, ?_⟩
    rw [h3, rowX_S]
    refine .inr ?_
    have := Done.own (W := W) (P := P) (g := [.lst (rows.map rowD)]) (g2 := []) (bels_rows _ _) h
    simpa using this
  have key2 : ∀ rows : List LRow, Sing rows → rows.length ≤ 15000 → joinL (rows ++ tailCut l e) = putL l b e (tl w) → f_put_on_2 ⟨[some dl, some (.int b), some (oD e), some (oS w), some (.hnd W.length)], W ++ [.lst (rows.map rowD)]⟩ (fEnds W P X) := by
    intro rows h1 h2 h3
    simp only [f_put_on_2_eq]
    cases e with
    | none =>
      walk_at "tw"
      have := key1 rows h1 (by omega) (by simpa [tailCut] using h3)
      exact this
    | some e =>
      walk_at "tw"
      refine ⟨dl, l, e, none, rfl, rdM_app hl _, hs.ne.1, by omega, hs.ne.2, .inl ?_⟩
      have hcl := cutL_len l e none
      walk_at "tw"
      refine ⟨sz_small (by first | omega | (simp; omega)), ?_⟩
      have := key1 (rows ++ cutL l e none) (h1.app (hs.cut _ _)) (by simp; omega) h3
      rw [List.map_append] at this
      exact this
  have key3 : ∀ rows : List LRow, Sing rows → rows.length ≤ 14000 → joinL (rows ++ oneRow b e (tl w) ++ tailCut l e) = putL l b e (tl w) → f_put_on_3 ⟨[some dl, some (.int b), some (oD e), some (oS w), some (.hnd W.length)], W ++ [.lst (rows.map rowD)]⟩ (fEnds W P X) := by
    intro rows h1 h2 h3
    simp only [f_put_on_3_eq]
    cases w with
    | none =>
      walk_at "tw"
      exact key2 rows h1 (by omega) (by simpa [tl, oneRow] using h3)
    | some w =>
      walk_at "tw"
      refine ⟨sz_lt (by omega), ?_⟩
      have := key2 (rows ++ [(b, e, [some w])]) (h1.app (Sing.one _ _ _)) (by simp; omega) (by simpa [tl, oneRow] using h3)
      rw [List.map_append] at this
      exact this
  simp only [f_put_on_4_eq]
  have hput : putL l b e (tl w) = joinL (headCut l b ++ oneRow b e (tl w) ++ tailCut l e) := rfl
  walk_at "tw"
  split
  · rename_i c
    refine ⟨dl, l, 0, some b, rfl, rdM_app hl _, hs.ne.1, by omega, hs.ne.2, .inl ?_⟩
    have hcl := cutL_len l 0 (some b)
    walk_at "tw"
    refine ⟨sz_small (by first | omega | (simp; omega)), ?_⟩
    exact key3 (cutL l 0 (some b)) (hs.cut _ _) (by omega) (by rw [hput]; unfold headCut; rw [if_pos c])
  · rename_i c
    exact key3 [] Sing.nil (by simp) (by rw [hput]; unfold headCut; rw [if_neg c])

theorem len_Sheet_line_behind : ∀ ds W P X, c_Sheet_line_behind ds W P X → ds.length = 3 := by rintro ds W P X ⟨_, C, n, fp, ts, lo, t, k, rfl, _⟩; rfl
theorem f_Sheet_line_behind_1_ex  : ∃ f : MS, f = (sRet (mCall c_put_on (mCons (mMeth "line_of" T_line_of_3 (mVar 0) (mCons (mBin dIx (mVar 1) (mC (.int 1))) (mCons (mBin dSub (mVar 2) (mC (.int 1))) mNil))) (mCons (mBin dIx (mVar 1) (M.bind (mC (.int 2)) dNeg)) (mCons (mBin dIx (mVar 1) (M.bind (mC (.int 1)) dNeg)) (mCons (mVar 3) mNil)))))) := ⟨_, rfl⟩
noncomputable def f_Sheet_line_behind_1  : MS := Classical.choose (f_Sheet_line_behind_1_ex )
theorem f_Sheet_line_behind_1_eq  : f_Sheet_line_behind_1  = (sRet (mCall c_put_on (mCons (mMeth "line_of" T_line_of_3 (mVar 0) (mCons (mBin dIx (mVar 1) (mC (.int 1))) (mCons (mBin dSub (mVar 2) (mC (.int 1))) mNil))) (mCons (mBin dIx (mVar 1) (M.bind (mC (.int 2)) dNeg)) (mCons (mBin dIx (mVar 1) (M.bind (mC (.int 1)) dNeg)) (mCons (mVar 3) mNil)))))) := Classical.choose_spec (f_Sheet_line_behind_1_ex )
theorem f_Sheet_line_behind_2_ex  : ∃ f : MS, f = (sSeq (sIf (mTest (mBin dEq (mBin dIx (mVar 1) (mC (.int 0))) (mC (.str "put")))) (sSet 3 (mBin dIx (mVar 1) (mC (.int 2)))) sNext) f_Sheet_line_behind_1) := ⟨_, rfl⟩
noncomputable def f_Sheet_line_behind_2  : MS := Classical.choose (f_Sheet_line_behind_2_ex )
theorem f_Sheet_line_behind_2_eq  : f_Sheet_line_behind_2  = (sSeq (sIf (mTest (mBin dEq (mBin dIx (mVar 1) (mC (.int 0))) (mC (.str "put")))) (sSet 3 (mBin dIx (mVar 1) (mC (.int 2)))) sNext) f_Sheet_line_behind_1) := Classical.choose_spec (f_Sheet_line_behind_2_ex )
theorem f_Sheet_line_behind_ex  : ∃ f : MS, f = (sSeq (sSet 3 (mC .non)) f_Sheet_line_behind_2) := ⟨_, rfl⟩
noncomputable def f_Sheet_line_behind  : MS := Classical.choose (f_Sheet_line_behind_ex )
theorem f_Sheet_line_behind_eq  : f_Sheet_line_behind  = (sSeq (sSet 3 (mC .non)) f_Sheet_line_behind_2) := Classical.choose_spec (f_Sheet_line_behind_ex )

theorem pure_Sheet_line_behind : ∀ ds W P X, c_Sheet_line_behind ds W P X → f_Sheet_line_behind ⟨startA 4 ds, W⟩ (fEnds W P X) := by
  rintro ds W P X ⟨⟨n', r, C', e, hA, hC⟩, C, n, fp, ts, lo, t, k, rfl, sh, rfl, h⟩
  cases e
  obtain rfl := hA.eq sh.isA
  have hts := sh.okts
  have hg := lineOf_good (k := t.key) hts
  have hz := lineOf_len (k := t.key) hts
  have hzt := sh.zts
  have hsnoc := lineOf_snoc ts t t.key
  rw [if_pos rfl] at hsnoc
  rw [hsnoc] at h
  have fin : ∀ (tel : D) (hb : atI (match tel with | .tup l => l | _ => []) 1 = some (.str t.key)) (h1 : atI (match tel with | .tup l => l | _ => []) (-2) = some (.int t.b)) (h2 : atI (match tel with | .tup l => l | _ => []) (-1) = some (oD t.e)) (l : List D), tel = .tup l →
      f_Sheet_line_behind_1 ⟨[some (.hnd n'), some tel, some (.int ((ts.length + 1 : Nat) : Int)), some (oS t.w)], W⟩ { nx := fun S => Done W P .non S.W, rt := fun d S => Done W P d S.W, bk := fun _ => False, ct := fun _ => False, ex := fun x S => DoneX W X x S.W } := by
    rintro tel hb h1 h2 l rfl
    simp only at hb h1 h2
    simp only [f_Sheet_line_behind_1_eq]
    walk_at "tw"
    refine sh.meth List.mem_cons_self ((by decide : ∀ C ∈ U_Sheet_line_behind, C ∈ UT_line_of_3_Sheet) _ hC) ?_
    have hb' : l[1]? = some (.str t.key) := by rw [← atI1]; exact hb
    walk_at "tw"
    simp only [hb']
    refine ⟨sh.isA, C', n', fp, ts ++ [t], ts, lo, t.key, ts.length, ?_, sh, sh.loz, Nat.le_refl _, .inl ?_⟩
    · rw [show ((ts.length + 1 : Nat) : Int) - 1 = (ts.length : Nat) by omega]
    rw [List.take_length]
    simp only [h1, h2]
    refine ⟨_, lineOf ts t.key, t.b, t.e, t.w, rfl, rfl, hg.sing, by omega, lstR_done h⟩
  obtain ⟨tk, tw, tb, te⟩ := t
  simp only [f_Sheet_line_behind_eq]
  cases tw with
  | none =>
    simp only [telD] at fin ⊢
    walk_at "tw"
    simp only [f_Sheet_line_behind_2_eq]
    walk_at "tw"
    rw [if_neg (by decide)]
    exact fin _ rfl rfl rfl _ rfl
  | some w =>
    simp only [telD] at fin ⊢
    walk_at "tw"
    simp only [f_Sheet_line_behind_2_eq]
    walk_at "tw"
    exact fin _ rfl rfl rfl _ rfl

theorem len_Sheet_take_in : ∀ ds W P X, c_Sheet_take_in ds W P X → ds.length = 3 := by rintro ds W P X ⟨_, C, n, fp, ts, lo, t, k, rfl, _⟩; rfl
theorem f_Sheet_take_in_1_ex  : ∃ f : MS, f = (sExpr (mMt isLst gAppend (mBin dIx (M.bind (mVar 0) (dFld "became" UF_became)) (mBin dIx (mVar 1) (mC (.int 1)))) (mCons (mTup (mCons (mVar 2) (mCons (mVar 3) mNil))) mNil))) := ⟨_, rfl⟩
noncomputable def f_Sheet_take_in_1  : MS := Classical.choose (f_Sheet_take_in_1_ex )
theorem f_Sheet_take_in_1_eq  : f_Sheet_take_in_1  = (sExpr (mMt isLst gAppend (mBin dIx (M.bind (mVar 0) (dFld "became" UF_became)) (mBin dIx (mVar 1) (mC (.int 1)))) (mCons (mTup (mCons (mVar 2) (mCons (mVar 3) mNil))) mNil))) := Classical.choose_spec (f_Sheet_take_in_1_ex )
theorem f_Sheet_take_in_2_ex  : ∃ f : MS, f = (sSeq (sIf (mTest (mBin (dIn true) (mBin dIx (mVar 1) (mC (.int 1))) (M.bind (mVar 0) (dFld "became" UF_became)))) (sAsg (gSub (M.bind (mVar 0) (dFld "became" UF_became)) (mBin dIx (mVar 1) (mC (.int 1)))) (mLst true mNil)) sNext) f_Sheet_take_in_1) := ⟨_, rfl⟩
noncomputable def f_Sheet_take_in_2  : MS := Classical.choose (f_Sheet_take_in_2_ex )
theorem f_Sheet_take_in_2_eq  : f_Sheet_take_in_2  = (sSeq (sIf (mTest (mBin (dIn true) (mBin dIx (mVar 1) (mC (.int 1))) (M.bind (mVar 0) (dFld "became" UF_became)))) (sAsg (gSub (M.bind (mVar 0) (dFld "became" UF_became)) (mBin dIx (mVar 1) (mC (.int 1)))) (mLst true mNil)) sNext) f_Sheet_take_in_1) := Classical.choose_spec (f_Sheet_take_in_2_ex )
theorem f_Sheet_take_in_ex  : ∃ f : MS, f = (sSeq (sSet 3 (mMeth "line_behind" T_line_behind_3 (mVar 0) (mCons (mVar 1) (mCons (mVar 2) mNil)))) f_Sheet_take_in_2) := ⟨_, rfl⟩
noncomputable def f_Sheet_take_in  : MS := Classical.choose (f_Sheet_take_in_ex )
theorem f_Sheet_take_in_eq  : f_Sheet_take_in  = (sSeq (sSet 3 (mMeth "line_behind" T_line_behind_3 (mVar 0) (mCons (mVar 1) (mCons (mVar 2) mNil)))) f_Sheet_take_in_2) := Classical.choose_spec (f_Sheet_take_in_ex )

theorem telD_tup (t : Tel) : ∃ l : List D, telD t = .tup l ∧ l[1]? = some (.str t.key) := by
  obtain ⟨tk, tw, tb, te⟩ := t
  cases tw <;> exact ⟨_, rfl, rfl⟩
theorem pure_Sheet_take_in : ∀ ds W P X, c_Sheet_take_in ds W P X → f_Sheet_take_in ⟨startA 4 ds, W⟩ (fEnds W P X) := by
  rintro ds W P X ⟨⟨n', r, C', e, hA, hC⟩, C, n, fp, ts, lo, t, k, rfl, sh, rfl, hz, h⟩
  cases e
  obtain rfl := hA.eq sh.isA
  obtain rfl := (by decide : ∀ C ∈ U_Sheet_take_in, C = "Sheet") _ hC
  obtain ⟨l, el, el1⟩ := telD_tup t
  simp only [f_Sheet_take_in_eq]
  walk_at "tw"
  refine sh.meth List.mem_cons_self ((by decide : ∀ C ∈ U_Sheet_take_in, C ∈ UT_line_behind_3_Sheet) _ hC) ?_
  walk_at "tw"
  refine ⟨sh.isA, "Sheet", n', fp, ts, lo, t, ts.length + 1, rfl, sh, rfl, .inl ?_⟩
  simp only [f_Sheet_take_in_2_eq, el]
  walk_at "tw"
  simp only [el1]
  obtain ⟨a, c, hs, xs, rfl, nd, hlt, w1, w2, w3, w4, hl, w5⟩ := sh.ex
  have hx : xs = [] := by
    rcases w4 with ⟨_, q⟩ | ⟨q, _⟩
    · exact q
    · exact absurd rfl q
  subst hx
  refine fld_go w1 shF_bec ((by decide : ∀ C ∈ U_Sheet_take_in, C ∈ UF_became) _ hC) ?_
  walk_at "tw"
  simp only [w3]
  have hkz : (keysOf ts).length ≤ 1000 := Nat.le_trans (keysOf_len ts) (by omega)
  have hC2 := (by decide : ∀ C ∈ U_Sheet_take_in, C ∈ UF_became) _ hC
  rcases Sh.kept (k := t.key) hl w5 with ⟨q1, q2⟩ | ⟨i, hh, q1, q2, q3, q4⟩
  · rw [q2]
    rw [if_pos (show (none : Option D).isSome = false from rfl)]
    refine fld_go (get_app w1) shF_bec hC2 ?_
    walk_at "tw"
    simp only [el1]
    walk_at "tw"
    simp only [get_app w3]
    have lc := sh.lt c (by simp)
    refine ⟨sz_lt (by simp; omega), ?_⟩
    rw [putD_out q1]
    simp only [f_Sheet_take_in_1_eq]
    walk_at "tw"
    have lnn := sh.lt n' (by simp)
    have ncn : c ≠ n' := fun z => by subst z; simp at nd
    generalize hW : (W ++ [O.lst []]).set c (O.dct ((keysOf ts ++ [t.key]).map Sum.inr) (hs.map D.hnd ++ [D.hnd W.length])) = W1
    have w1' : W1[n']? = some (.ins "Sheet" (shFields "Sheet" a c [] lo)) := by rw [← hW, List.getElem?_set_ne ncn]; exact get_app w1
    have w3' : W1[c]? = some (.dct ((keysOf ts ++ [t.key]).map Sum.inr) (hs.map D.hnd ++ [D.hnd W.length])) := by rw [← hW, List.getElem?_set_self (by simp; omega)]
    have wl : W1[W.length]? = some (.lst []) := by rw [← hW, List.getElem?_set_ne (by omega)]; simp
    refine fld_go w1' shF_bec hC2 ?_
    walk_at "tw"
    simp only [el1]
    walk_at "tw"
    simp only [w3']
    rw [valD_last (by simp [hl]) q1]
    simp only [wl]
    refine ⟨⟨_, rfl⟩, sz_lt (by simp), ?_⟩
    have hb : [] ++ [D.tup [D.int ((ts.length + 1 : Nat) : Int), D.lst ((lineOf (ts ++ [t]) t.key).map rowD)]] = keptOf "Sheet" (ts ++ [t]) lo t.key := by
      show _ = (becOf (ts ++ [t]) t.key).map becD
      rw [becOf_snoc, if_pos rfl, becOf_other q1]
      rfl
    rw [hb]
    have sh' := tookB sh nd w1 w2 w3 hl w5 q1
    have hW2 : W1.set W.length (.lst (keptOf "Sheet" (ts ++ [t]) lo t.key)) = W.set c (.dct ((keysOf ts ++ [t.key]).map Sum.inr) ((hs ++ [W.length]).map D.hnd)) ++ [.lst (keptOf "Sheet" (ts ++ [t]) lo t.key)] := by
      rw [← hW, List.set_append_left _ _ lc, set_ownL (by simp)]
      simp
    rw [hW2]
    refine .inl (h _ _ sh' ?_ ?_)
    · exact ((Fr.refl W _).set (.inl (by simp))).app _
    · intro j hj
      simp only [List.append_nil, List.mem_cons, List.mem_append, List.not_mem_nil, or_false] at hj ⊢
      rcases hj with q | q | q | q | q
      · exact .inl (.inl q)
      · exact .inl (.inr (.inl q))
      · exact .inl (.inr (.inr (.inl q)))
      · exact .inl (.inr (.inr (.inr q)))
      · exact .inr (by omega)
  · rw [q4]
    rw [if_neg (by simp)]
    simp only [f_Sheet_take_in_1_eq]
    walk_at "tw"
    refine fld_go w1 shF_bec hC2 ?_
    walk_at "tw"
    simp only [el1]
    walk_at "tw"
    simp only [w3, q4, q3]
    have hz2 := becOf_len ts t.key
    have ek : keptOf "Sheet" ts lo t.key = (becOf ts t.key).map becD := rfl
    refine ⟨⟨_, rfl⟩, sz_lt (by rw [ek]; simp; omega), ?_⟩
    have hb : keptOf "Sheet" ts lo t.key ++ [D.tup [D.int ((ts.length + 1 : Nat) : Int), D.lst ((lineOf (ts ++ [t]) t.key).map rowD)]] = keptOf "Sheet" (ts ++ [t]) lo t.key := by
      show _ = (becOf (ts ++ [t]) t.key).map becD
      rw [becOf_snoc, if_pos rfl, List.map_append]
      rfl
    rw [hb]
    have sh' := tookA sh nd w1 w2 w3 hl w5 q1 q2
    have hm := List.mem_of_getElem? q2
    exact .inl (h _ _ sh' ((Fr.refl W _).set (.inl (by simp [hm]))) fun j hj => .inl hj)

def c_is_moment : FC := fun ds W P _ => ∃ d, ds = [d] ∧ plainD d = true ∧ P (.bl (isMo d)) W
theorem len_is_moment : ∀ ds W P X, c_is_moment ds W P X → ds.length = 1 := by rintro ds W P X ⟨a, rfl, _⟩; rfl

theorem f_is_moment_ex  : ∃ f : MS, f = (sRet (mAndV (M.bind (mCons (mVar 0) (mCons (mC (.ty "int")) mNil)) bIsi) (mAndV (mNotV (M.bind (mCons (mVar 0) (mCons (mC (.ty "bool")) mNil)) bIsi)) (mChain dLe dLe (mC (.int 0)) (mVar 0) (mC (.int 1000000000000)))))) := ⟨_, rfl⟩
noncomputable def f_is_moment  : MS := Classical.choose (f_is_moment_ex )
theorem f_is_moment_eq  : f_is_moment  = (sRet (mAndV (M.bind (mCons (mVar 0) (mCons (mC (.ty "int")) mNil)) bIsi) (mAndV (mNotV (M.bind (mCons (mVar 0) (mCons (mC (.ty "bool")) mNil)) bIsi)) (mChain dLe dLe (mC (.int 0)) (mVar 0) (mC (.int 1000000000000)))))) := Classical.choose_spec (f_is_moment_ex )

theorem pure_is_moment : ∀ ds W P X, c_is_moment ds W P X → f_is_moment ⟨startA 1 ds, W⟩ (fEnds W P X) := by
  rintro ds W P X ⟨d, rfl, hd, h⟩
  simp only [f_is_moment_eq]
  cases d <;> first
    | (simp [plainD] at hd; done)
    | (walk_at "tw"; exact .inl h)
    | (walk_at "tw"
       simp only [isMo] at h
       split
       · rename_i c; exact .inl (by simpa [c] using h)
       · rename_i c; exact .inl (by simpa [c] using h))

def c_is_stretch : FC := fun ds W P _ => ∃ b e, ds = [b, e] ∧ plainD b = true ∧ plainD e = true ∧ P (.bl (isStc b e)) W
theorem len_is_stretch : ∀ ds W P X, c_is_stretch ds W P X → ds.length = 2 := by rintro ds W P X ⟨a, b, rfl, _⟩; rfl
theorem f_is_stretch_1_ex  : ∃ f : MS, f = (sRet (mOrV (mBin (dIs false) (mVar 1) (mC .non)) (mAndV (mCall c_is_moment (mCons (mVar 1) mNil)) (mBin dGt (mVar 1) (mVar 0))))) := ⟨_, rfl⟩
noncomputable def f_is_stretch_1  : MS := Classical.choose (f_is_stretch_1_ex )
theorem f_is_stretch_1_eq  : f_is_stretch_1  = (sRet (mOrV (mBin (dIs false) (mVar 1) (mC .non)) (mAndV (mCall c_is_moment (mCons (mVar 1) mNil)) (mBin dGt (mVar 1) (mVar 0))))) := Classical.choose_spec (f_is_stretch_1_ex )
theorem f_is_stretch_ex  : ∃ f : MS, f = (sSeq (sIf (mNot (mTest (mCall c_is_moment (mCons (mVar 0) mNil)))) (sRet (mC (.bl false))) sNext) f_is_stretch_1) := ⟨_, rfl⟩
noncomputable def f_is_stretch  : MS := Classical.choose (f_is_stretch_ex )
theorem f_is_stretch_eq  : f_is_stretch  = (sSeq (sIf (mNot (mTest (mCall c_is_moment (mCons (mVar 0) mNil)))) (sRet (mC (.bl false))) sNext) f_is_stretch_1) := Classical.choose_spec (f_is_stretch_ex )

theorem isMo_int {d : D} (h : isMo d = true) : ∃ i, d = .int i := by
  cases d <;> first | exact ⟨_, rfl⟩ | simp [isMo] at h
theorem pure_is_stretch : ∀ ds W P X, c_is_stretch ds W P X → f_is_stretch ⟨startA 2 ds, W⟩ (fEnds W P X) := by
  rintro ds W P X ⟨b, e, rfl, hb, he, h⟩
  simp only [f_is_stretch_eq, f_is_stretch_1_eq]
  walk_at "tw"
  refine ⟨b, rfl, hb, ?_⟩
  walk_at "tw"
  simp only [isStc] at h
  cases m1 : isMo b with
  | false => 
    walk_at "tw"
    exact .inl (by simpa [m1] using h)
  | true =>
    walk_at "tw"
    cases n1 : isNon e with
    | true =>
      walk_at "tw"
      exact .inl (by simpa [m1, n1] using h)
    | false =>
      walk_at "tw"
      refine ⟨e, rfl, he, ?_⟩
      walk_at "tw"
      cases m2 : isMo e with
      | false =>
        walk_at "tw"
        exact .inl (by simpa [m1, n1, m2] using h)
      | true =>
        obtain ⟨i, rfl⟩ := isMo_int m1
        obtain ⟨j, rfl⟩ := isMo_int m2
        walk_at "tw"
        exact .inl (by simpa [m1, n1, m2, gtD] using h)

theorem len_Sheet_tell : ∀ ds W P X, c_Sheet_tell ds W P X → ds.length = 2 := by
  rintro ds W P X ⟨_, C, n, fp, ts, lo, _, _, ⟨t, rfl, _⟩ | ⟨kd, ws, b, e, rfl, _⟩⟩ <;> rfl
theorem f_Sheet_tell_1_ex  : ∃ f : MS, f = (sIf (mNot (mTest (mCall c_is_name (mCons (mVar 2) mNil)))) (sRaise0 "NoName") sNext) := ⟨_, rfl⟩
noncomputable def f_Sheet_tell_1  : MS := Classical.choose (f_Sheet_tell_1_ex )
theorem f_Sheet_tell_1_eq  : f_Sheet_tell_1  = (sIf (mNot (mTest (mCall c_is_name (mCons (mVar 2) mNil)))) (sRaise0 "NoName") sNext) := Classical.choose_spec (f_Sheet_tell_1_ex )
theorem f_Sheet_tell_2_ex  : ∃ f : MS, f = (sRet (M.bind (mCons (M.bind (mVar 0) (dFld "told_so" UF_told_so)) mNil) bLen)) := ⟨_, rfl⟩
noncomputable def f_Sheet_tell_2  : MS := Classical.choose (f_Sheet_tell_2_ex )
theorem f_Sheet_tell_2_eq  : f_Sheet_tell_2  = (sRet (M.bind (mCons (M.bind (mVar 0) (dFld "told_so" UF_told_so)) mNil) bLen)) := Classical.choose_spec (f_Sheet_tell_2_ex )
theorem f_Sheet_tell_3_ex  : ∃ f : MS, f = (sSeq (sExpr (mMeth "take_in" T_take_in_3 (mVar 0) (mCons (mVar 1) (mCons (M.bind (mCons (M.bind (mVar 0) (dFld "told_so" UF_told_so)) mNil) bLen) mNil)))) f_Sheet_tell_2) := ⟨_, rfl⟩
noncomputable def f_Sheet_tell_3  : MS := Classical.choose (f_Sheet_tell_3_ex )
theorem f_Sheet_tell_3_eq  : f_Sheet_tell_3  = (sSeq (sExpr (mMeth "take_in" T_take_in_3 (mVar 0) (mCons (mVar 1) (mCons (M.bind (mCons (M.bind (mVar 0) (dFld "told_so" UF_told_so)) mNil) bLen) mNil)))) f_Sheet_tell_2) := Classical.choose_spec (f_Sheet_tell_3_ex )
theorem f_Sheet_tell_4_ex  : ∃ f : MS, f = (sSeq (sExpr (mMt isLst gAppend (M.bind (mVar 0) (dFld "told_so" UF_told_so)) (mCons (mVar 1) mNil))) f_Sheet_tell_3) := ⟨_, rfl⟩
noncomputable def f_Sheet_tell_4  : MS := Classical.choose (f_Sheet_tell_4_ex )
theorem f_Sheet_tell_4_eq  : f_Sheet_tell_4  = (sSeq (sExpr (mMt isLst gAppend (M.bind (mVar 0) (dFld "told_so" UF_told_so)) (mCons (mVar 1) mNil))) f_Sheet_tell_3) := Classical.choose_spec (f_Sheet_tell_4_ex )
theorem f_Sheet_tell_5_ex  : ∃ f : MS, f = (sSeq (sIf (mNot (mTest (mCall c_is_stretch (mCons (mBin dIx (mVar 1) (M.bind (mC (.int 2)) dNeg)) (mCons (mBin dIx (mVar 1) (M.bind (mC (.int 1)) dNeg)) mNil))))) (sRaise0 "NoStretch") sNext) f_Sheet_tell_4) := ⟨_, rfl⟩
noncomputable def f_Sheet_tell_5  : MS := Classical.choose (f_Sheet_tell_5_ex )
theorem f_Sheet_tell_5_eq  : f_Sheet_tell_5  = (sSeq (sIf (mNot (mTest (mCall c_is_stretch (mCons (mBin dIx (mVar 1) (M.bind (mC (.int 2)) dNeg)) (mCons (mBin dIx (mVar 1) (M.bind (mC (.int 1)) dNeg)) mNil))))) (sRaise0 "NoStretch") sNext) f_Sheet_tell_4) := Classical.choose_spec (f_Sheet_tell_5_ex )
theorem f_Sheet_tell_ex  : ∃ f : MS, f = (sSeq (sFor (M.bind (mSl false (mVar 1) (mPart (mC (.int 1))) (mPart (M.bind (mC (.int 2)) dNeg))) bIter) (gN 2) f_Sheet_tell_1) f_Sheet_tell_5) := ⟨_, rfl⟩
noncomputable def f_Sheet_tell  : MS := Classical.choose (f_Sheet_tell_ex )
theorem f_Sheet_tell_eq  : f_Sheet_tell  = (sSeq (sFor (M.bind (mSl false (mVar 1) (mPart (mC (.int 1))) (mPart (M.bind (mC (.int 2)) dNeg))) bIter) (gN 2) f_Sheet_tell_1) f_Sheet_tell_5) := Classical.choose_spec (f_Sheet_tell_ex )

theorem tell_head {n : Nat} {kd b e : D} {ws : List D} {W : Wd} {P : D → Wd → Prop} {X : Exn → Wd → Prop} (hz : ws.length ≤ 100) (hp : ∀ w ∈ ws, plainD w = true) (hb : plainD b = true) (he : plainD e = true)
    (hgood : ws.all isNm = true → isStc b e = true → ∀ s2, f_Sheet_tell_4 ⟨[some (.hnd n), some (.tup (kd :: ws ++ [b, e])), s2], W⟩ (fEnds W P X))
    (hst : ws.all isNm = true → isStc b e = false → X noSt W) (hnm : ws.all isNm = false → X noNm W) : f_Sheet_tell ⟨startA 3 [.hnd n, .tup (kd :: ws ++ [b, e])], W⟩ (fEnds W P X) := by
  simp only [f_Sheet_tell_eq]
  have ec := cut_mid kd ws b e
  have ene := cut_mid_ne kd ws b e
  have e2 := atI_mid2 kd ws b e
  have e1 := atI_mid1 kd ws b e
  generalize kd :: ws ++ [b, e] = l at *
  walk_at "tw"
  refine ⟨ene, ?_⟩
  rw [ec]
  rw [show ws = ws.map id from (List.map_id ws).symm]
  refine loop_ind id (fun pre S => pre.all isNm = true ∧ ∃ s2, S = ⟨[some (.hnd n), some (.tup l), s2], W⟩) ws ⟨rfl, none, rfl⟩ (fun _ _ _ => trivial) ?_ ?_
  · rintro pre w post S hall ⟨hpre, s2, rfl⟩ N hN
    have hw : w ∈ ws := by rw [hall]; simp
    simp only [id]
    simp only [f_Sheet_tell_1_eq]
    walk_at "tw"
    refine ⟨w, rfl, hp w hw, ?_⟩
    simp only
    cases e : isNm w with
    | true => exact hN _ ⟨by simp [hpre, e], _, rfl⟩
    | false =>
      have : ws.all isNm = false := by rw [hall]; simp [e]
      exact .inl (hnm this)
  · rintro S ⟨hall, s2, rfl⟩
    simp only [f_Sheet_tell_5_eq]
    walk_at "tw"
    simp only [e2, e1]
    refine ⟨b, e, rfl, hb, he, ?_⟩
    simp only
    cases ec : isStc b e with
    | true => exact hgood hall ec s2
    | false => exact .inl (hst hall ec)
theorem pure_Sheet_tell : ∀ ds W P X, c_Sheet_tell ds W P X → f_Sheet_tell ⟨startA 3 ds, W⟩ (fEnds W P X) := by
  rintro ds W P X ⟨⟨n', r, C', e, hA, hC⟩, C, n, fp, ts, lo, sh, hz, ⟨t, rfl, ok, h⟩ | ⟨kd, ws, b, e, rfl, hwz, hwp, hbp, hep, h⟩⟩
  · cases e
    obtain rfl := hA.eq sh.isA
    obtain ⟨kd, ws, et, hwz, hwn, hws⟩ := telD_mid t
    rw [et]
    have hall := hwn ok
    refine tell_head (by omega) (fun w hw => ?_) (plain_int _) (plain_oD _) (fun _ _ s2 => ?_) (fun _ q => by rw [isStc_ok ok.st] at q; cases q) (fun q => by rw [hall] at q; cases q)
    · obtain ⟨z, rfl⟩ := hws w hw
      exact plain_name (List.all_eq_true.mp hall _ hw)
    rw [← et]
    obtain ⟨a, c, hs, xs, _, _, hlt, w1, w2, _⟩ := sh.ex
    obtain ⟨sh1, ha⟩ := sh.more ok hz w1
    have hC2 := (by decide : ∀ C ∈ U_Sheet_tell, C ∈ UF_told_so) _ hC
    have hna : a ≠ n' := fun z => by subst z; simp_all
    simp only [f_Sheet_tell_4_eq]
    walk_at "tw"
    refine fld_go w1 shF_told hC2 ?_
    walk_at "tw"
    simp only [w2]
    refine ⟨⟨_, rfl⟩, sz_lt (by simp; omega), ?_⟩
    rw [show ts.map telD ++ [telD t] = (ts ++ [t]).map telD by simp]
    generalize hW1 : W.set a (.lst ((ts ++ [t]).map telD)) = W1 at sh1 ⊢
    have hfr : Fr W fp W1 := by rw [← hW1]; exact (Fr.refl W fp).set (.inl ha)
    have hlen : W1.length = W.length := by rw [← hW1]; simp
    have w1' : W1[n']? = some (.ins C' (shFields C' a c xs lo)) := by rw [← hW1, List.getElem?_set_ne hna]; exact w1
    have w2' : W1[a]? = some (.lst ((ts ++ [t]).map telD)) := by rw [← hW1, List.getElem?_set_self (hlt a ha)]
    simp only [f_Sheet_tell_3_eq]
    walk_at "tw"
    refine sh1.meth List.mem_cons_self ((by decide : ∀ C ∈ U_Sheet_tell, C ∈ UT_take_in_3_Sheet) _ hC) ?_
    walk_at "tw"
    refine fld_go w1' shF_told hC2 ?_
    walk_at "tw"
    simp only [w2', List.length_map, List.length_append, List.length_singleton]
    refine ⟨sh1.isA, C', n', fp, ts, lo, t, ts.length + 1, rfl, sh1, rfl, hz, fun W2 fp2 sh2 fr2 hf2 => ?_⟩
    obtain ⟨a2, c2, hs2, xs2, _, _, hlt2, v1, v2, _⟩ := sh2.ex
    simp only [f_Sheet_tell_2_eq]
    walk_at "tw"
    refine fld_go v1 shF_told hC2 ?_
    walk_at "tw"
    simp only [v2, List.length_map, List.length_append, List.length_singleton]
    exact .inl (h W2 fp2 sh2 (hfr.trans fr2) fun i hi => by rw [← hlen]; exact hf2 i hi)
  · refine tell_head hwz hwp hbp hep (fun hall q s2 => ?_) (fun hall q => ?_) (fun q => ?_)
    · rw [if_pos hall] at h
      rw [q] at h
      cases h.1
    · rw [if_pos hall] at h
      exact h.2
    · rw [if_neg (by rw [q]; decide)] at h
      exact h

def c_worth_in : FC := fun ds W P _ => ∃ (dl : D) (l : List LRow) (m : Int), ds = [dl, .int m] ∧ rdM W dl = some (l.map rowD) ∧ Sing l ∧ P (oS (wAt l m)) W
theorem len_worth_in : ∀ ds W P X, c_worth_in ds W P X → ds.length = 2 := by rintro ds W P X ⟨n, c, m, rfl, _⟩; rfl
theorem f_worth_in_1_ex  : ∃ f : MS, f = (sIf (mAnd (mTest (mBin dLe (mVar 2) (mVar 1))) (mOr (mTest (mBin (dIs false) (mVar 3) (mC .non))) (mTest (mBin dLt (mVar 1) (mVar 3))))) (sRet (mVar 4)) sNext) := ⟨_, rfl⟩
noncomputable def f_worth_in_1  : MS := Classical.choose (f_worth_in_1_ex )
theorem f_worth_in_1_eq  : f_worth_in_1  = (sIf (mAnd (mTest (mBin dLe (mVar 2) (mVar 1))) (mOr (mTest (mBin (dIs false) (mVar 3) (mC .non))) (mTest (mBin dLt (mVar 1) (mVar 3))))) (sRet (mVar 4)) sNext) := Classical.choose_spec (f_worth_in_1_ex )
theorem f_worth_in_2_ex  : ∃ f : MS, f = (sRet (mC .non)) := ⟨_, rfl⟩
noncomputable def f_worth_in_2  : MS := Classical.choose (f_worth_in_2_ex )
theorem f_worth_in_2_eq  : f_worth_in_2  = (sRet (mC .non)) := Classical.choose_spec (f_worth_in_2_ex )
theorem f_worth_in_ex  : ∃ f : MS, f = (sSeq (sFor (M.bind (mVar 0) bIter) (gTup 3 (gCons (gN 2) (gCons (gN 3) (gCons (gN 4) gNil)))) f_worth_in_1) f_worth_in_2) := ⟨_, rfl⟩
noncomputable def f_worth_in  : MS := Classical.choose (f_worth_in_ex )
theorem f_worth_in_eq  : f_worth_in  = (sSeq (sFor (M.bind (mVar 0) bIter) (gTup 3 (gCons (gN 2) (gCons (gN 3) (gCons (gN 4) gNil)))) f_worth_in_1) f_worth_in_2) := Classical.choose_spec (f_worth_in_ex )

theorem pure_worth_in : ∀ ds W P X, c_worth_in ds W P X → f_worth_in ⟨startA 5 ds, W⟩ (fEnds W P X) := by
  rintro ds W P X ⟨dl, l, m, rfl, hl, hs, h⟩
  simp only [f_worth_in_eq]
  walk_at "tw"
  refine bIter_rd hl ⟨rdM_rdS hl, ?_⟩
  refine loop_ind rowD (fun pre S => (∀ r ∈ pre, inSt (rst r) m = false) ∧ ∃ s2 s3 s4, S = ⟨[some dl, some (.int m), s2, s3, s4], W⟩) l ⟨by simp, _, _, _, rfl⟩ ?_ ?_ ?_
  · rintro pre S ⟨_, s2, s3, s4, rfl⟩
    exact rdM_rdS hl
  · rintro pre ⟨b, e, t⟩ post S hall ⟨hp, s2, s3, s4, rfl⟩ N hN
    obtain ⟨o, rfl⟩ := hs (b, e, t) (by rw [hall]; simp)
    have hat : wAt l m = if inSt (b, e) m = true then o else wAt post m := by
      rw [wAt, hall, atL_skip hp, atL]
      split
      · rename_i c; simp only [rst] at c; rw [c]; rfl
      · rename_i c; simp only [rst] at c; rw [if_neg c]; rfl
    rw [rowD_eq]
    simp only [f_worth_in_1_eq]
    cases e with
    | none =>
      walk_at "tw"
      rw [inSt_none] at hat
      split
      · rename_i c
        rw [if_pos (by simpa using c)] at hat
        rw [hat] at h
        exact .inl h
      · rename_i c
        refine hN _ ⟨fun r hr => ?_, _, _, _, rfl⟩
        rcases List.mem_append.mp hr with q | q
        · exact hp r q
        · simp at q; subst q; simp [rst, inSt_none]; omega
    | some e =>
      walk_at "tw"
      rw [inSt_some] at hat
      have key : ¬ (b ≤ m ∧ m < e) → N ⟨[some dl, some (D.int m), some (D.int b), some (D.int e), some (oS o)], W⟩ := fun c => by
        refine hN _ ⟨fun r hr => ?_, _, _, _, rfl⟩
        rcases List.mem_append.mp hr with q | q
        · exact hp r q
        · simp at q; subst q; simp [rst, inSt_some]; omega
      split
      · rename_i c
        split
        · rename_i d
          rw [if_pos (by simp [c, d])] at hat
          rw [hat] at h
          exact .inl h
        · rename_i d
          exact key (by omega)
      · rename_i c
        exact key (by omega)
  · rintro S ⟨hp, s2, s3, s4, rfl⟩
    simp only [f_worth_in_2_eq]
    walk_at "tw"
    have : wAt l m = none := by
      have := atL_skip (l := []) hp
      rw [List.append_nil] at this
      rw [wAt, this]
      rfl
    rw [this] at h
    exact .inl h

theorem len_Sheet_worth_at : ∀ ds W P X, c_Sheet_worth_at ds W P X → ds.length = 4 := by rintro ds W P X ⟨_, C, n, fp, ts, lo, kd, md, k, rfl, _⟩; rfl
theorem f_Sheet_worth_at_1_ex  : ∃ f : MS, f = (sRet (mCall c_worth_in (mCons (mMeth "line_of" T_line_of_3 (mVar 0) (mCons (mVar 1) (mCons (mVar 3) mNil))) (mCons (mVar 2) mNil)))) := ⟨_, rfl⟩
noncomputable def f_Sheet_worth_at_1  : MS := Classical.choose (f_Sheet_worth_at_1_ex )
theorem f_Sheet_worth_at_1_eq  : f_Sheet_worth_at_1  = (sRet (mCall c_worth_in (mCons (mMeth "line_of" T_line_of_3 (mVar 0) (mCons (mVar 1) (mCons (mVar 3) mNil))) (mCons (mVar 2) mNil)))) := Classical.choose_spec (f_Sheet_worth_at_1_ex )
theorem f_Sheet_worth_at_2_ex  : ∃ f : MS, f = (sSeq (sIf (mNot (mTest (mCall c_is_moment (mCons (mVar 2) mNil)))) (sRaise0 "NoStretch") sNext) f_Sheet_worth_at_1) := ⟨_, rfl⟩
noncomputable def f_Sheet_worth_at_2  : MS := Classical.choose (f_Sheet_worth_at_2_ex )
theorem f_Sheet_worth_at_2_eq  : f_Sheet_worth_at_2  = (sSeq (sIf (mNot (mTest (mCall c_is_moment (mCons (mVar 2) mNil)))) (sRaise0 "NoStretch") sNext) f_Sheet_worth_at_1) := Classical.choose_spec (f_Sheet_worth_at_2_ex )
theorem f_Sheet_worth_at_3_ex  : ∃ f : MS, f = (sSeq (sExpr (mMeth "need_key" T_need_key_2 (mVar 0) (mCons (mVar 1) mNil))) f_Sheet_worth_at_2) := ⟨_, rfl⟩
noncomputable def f_Sheet_worth_at_3  : MS := Classical.choose (f_Sheet_worth_at_3_ex )
theorem f_Sheet_worth_at_3_eq  : f_Sheet_worth_at_3  = (sSeq (sExpr (mMeth "need_key" T_need_key_2 (mVar 0) (mCons (mVar 1) mNil))) f_Sheet_worth_at_2) := Classical.choose_spec (f_Sheet_worth_at_3_ex )
theorem f_Sheet_worth_at_ex  : ∃ f : MS, f = (sSeq (sExpr (mMeth "need_knowing" T_need_knowing_2 (mVar 0) (mCons (mVar 3) mNil))) f_Sheet_worth_at_3) := ⟨_, rfl⟩
noncomputable def f_Sheet_worth_at  : MS := Classical.choose (f_Sheet_worth_at_ex )
theorem f_Sheet_worth_at_eq  : f_Sheet_worth_at  = (sSeq (sExpr (mMeth "need_knowing" T_need_knowing_2 (mVar 0) (mCons (mVar 3) mNil))) f_Sheet_worth_at_3) := Classical.choose_spec (f_Sheet_worth_at_ex )

theorem pure_Sheet_worth_at : ∀ ds W P X, c_Sheet_worth_at ds W P X → f_Sheet_worth_at ⟨startA 4 ds, W⟩ (fEnds W P X) := by
  rintro ds W P X ⟨⟨n', r, C', e, hA, hC⟩, C, n, fp, ts, lo, kd, md, k, rfl, hkd, hmd, sh, h⟩
  cases e
  obtain rfl := hA.eq sh.isA
  simp only [f_Sheet_worth_at_eq]
  walk_at "tw"
  refine sh.meth List.mem_cons_self ((by decide : ∀ C ∈ U_Sheet_worth_at, C ∈ UT_need_knowing_2_Sheet) _ hC) ?_
  walk_at "tw"
  refine ⟨sh.isA, C', n', fp, ts, lo, k, rfl, sh, h.imp (fun x hx => .inl hx) fun k0 k1 k2 h => ?_⟩
  simp only [f_Sheet_worth_at_3_eq]
  walk_at "tw"
  refine sh.meth List.mem_cons_self ((by decide : ∀ C ∈ U_Sheet_worth_at, C ∈ UT_need_key_2_Sheet) _ hC) ?_
  walk_at "tw"
  refine ⟨sh.isA, n', kd, rfl, hkd, ?_⟩
  split
  · rename_i hn
    rw [if_pos hn] at h
    obtain ⟨key, rfl, _⟩ := isNm_str hn
    simp only [f_Sheet_worth_at_2_eq]
    walk_at "tw"
    refine ⟨md, rfl, hmd, ?_⟩
    walk_at "tw"
    by_cases hm : isMo md = true
    · rw [if_pos hm] at h
      rw [if_neg (by simp [hm])]
      obtain ⟨m, rfl⟩ : ∃ m, md = .int m := by cases md <;> simp [isMo] at hm ⊢
      have h := h key m rfl rfl
      simp only [f_Sheet_worth_at_1_eq]
      walk_at "tw"
      refine sh.meth List.mem_cons_self ((by decide : ∀ C ∈ U_Sheet_worth_at, C ∈ UT_line_of_3_Sheet) _ hC) ?_
      walk_at "tw"
      refine ⟨sh.isA, C', n', fp, ts, ts, lo, key, k.toNat, by rw [show ((k.toNat : Nat) : Int) = k by omega], sh, by omega, by omega, .inl ?_⟩
      refine ⟨_, lineOf (ts.take k.toNat) key, m, rfl, rfl, ?_, ?_⟩
      · exact (lineOf_good fun t ht => sh.okts t (List.mem_of_mem_take ht)).sing
      · rw [lineOf_wAt (fun t ht => sh.okts t (List.mem_of_mem_take ht))]
        exact .inl h
    · rw [if_neg hm] at h
      rw [if_pos (by simpa using hm)]
      exact .inl h
  · rename_i hn
    rw [if_neg hn] at h
    exact .inl h

def c_all_at : FC := fun ds W P X => ∃ C n fp ts lo md k, ds = [.hnd n, md, .int k] ∧ C ∈ UT_worth_at_4_Sheet ∧ plainD md = true ∧ Sh C W fp n ts ts lo ∧
  knAsk ts lo k (fun x => X x W) (if isMo md = true then ∀ m, md = .int m → lstR P W ((allR ts k.toNat m).map awD) else X noSt W)
theorem len_all_at : ∀ ds W P X, c_all_at ds W P X → ds.length = 3 := by rintro ds W P X ⟨C, n, fp, ts, lo, md, k, rfl, _⟩; rfl
theorem f_all_at_1_ex  : ∃ f : MS, f = (sIf (mTest (mBin (dIs true) (mVar 6) (mC .non))) (sExpr (mMt isLst gAppend (mVar 4) (mCons (mTup (mCons (mVar 5) (mCons (mVar 6) mNil))) mNil))) sNext) := ⟨_, rfl⟩
noncomputable def f_all_at_1  : MS := Classical.choose (f_all_at_1_ex )
theorem f_all_at_1_eq  : f_all_at_1  = (sIf (mTest (mBin (dIs true) (mVar 6) (mC .non))) (sExpr (mMt isLst gAppend (mVar 4) (mCons (mTup (mCons (mVar 5) (mCons (mVar 6) mNil))) mNil))) sNext) := Classical.choose_spec (f_all_at_1_ex )
theorem f_all_at_2_ex  : ∃ f : MS, f = (sSeq (sSet 6 (mMeth "worth_at" T_worth_at_4 (mVar 0) (mCons (mVar 5) (mCons (mVar 1) (mCons (mVar 2) mNil))))) f_all_at_1) := ⟨_, rfl⟩
noncomputable def f_all_at_2  : MS := Classical.choose (f_all_at_2_ex )
theorem f_all_at_2_eq  : f_all_at_2  = (sSeq (sSet 6 (mMeth "worth_at" T_worth_at_4 (mVar 0) (mCons (mVar 5) (mCons (mVar 1) (mCons (mVar 2) mNil))))) f_all_at_1) := Classical.choose_spec (f_all_at_2_ex )
theorem f_all_at_3_ex  : ∃ f : MS, f = (sRet (mVar 4)) := ⟨_, rfl⟩
noncomputable def f_all_at_3  : MS := Classical.choose (f_all_at_3_ex )
theorem f_all_at_3_eq  : f_all_at_3  = (sRet (mVar 4)) := Classical.choose_spec (f_all_at_3_ex )
theorem f_all_at_4_ex  : ∃ f : MS, f = (sSeq (sFor (M.bind (mVar 3) bIter) (gN 5) f_all_at_2) f_all_at_3) := ⟨_, rfl⟩
noncomputable def f_all_at_4  : MS := Classical.choose (f_all_at_4_ex )
theorem f_all_at_4_eq  : f_all_at_4  = (sSeq (sFor (M.bind (mVar 3) bIter) (gN 5) f_all_at_2) f_all_at_3) := Classical.choose_spec (f_all_at_4_ex )
theorem f_all_at_5_ex  : ∃ f : MS, f = (sSeq (sSet 4 (mLst true mNil)) f_all_at_4) := ⟨_, rfl⟩
noncomputable def f_all_at_5  : MS := Classical.choose (f_all_at_5_ex )
theorem f_all_at_5_eq  : f_all_at_5  = (sSeq (sSet 4 (mLst true mNil)) f_all_at_4) := Classical.choose_spec (f_all_at_5_ex )
theorem f_all_at_6_ex  : ∃ f : MS, f = (sSeq (sIf (mNot (mTest (mCall c_is_moment (mCons (mVar 1) mNil)))) (sRaise0 "NoStretch") sNext) f_all_at_5) := ⟨_, rfl⟩
noncomputable def f_all_at_6  : MS := Classical.choose (f_all_at_6_ex )
theorem f_all_at_6_eq  : f_all_at_6  = (sSeq (sIf (mNot (mTest (mCall c_is_moment (mCons (mVar 1) mNil)))) (sRaise0 "NoStretch") sNext) f_all_at_5) := Classical.choose_spec (f_all_at_6_ex )
theorem f_all_at_ex  : ∃ f : MS, f = (sSeq (sSet 3 (mMeth "keys_at" T_keys_at_2 (mVar 0) (mCons (mVar 2) mNil))) f_all_at_6) := ⟨_, rfl⟩
noncomputable def f_all_at  : MS := Classical.choose (f_all_at_ex )
theorem f_all_at_eq  : f_all_at  = (sSeq (sSet 3 (mMeth "keys_at" T_keys_at_2 (mVar 0) (mCons (mVar 2) mNil))) f_all_at_6) := Classical.choose_spec (f_all_at_ex )

theorem pure_all_at : ∀ ds W P X, c_all_at ds W P X → f_all_at ⟨startA 7 ds, W⟩ (fEnds W P X) := by
  rintro ds W P X ⟨C, n, fp, ts, lo, md, k, rfl, hC, hmd, sh, h⟩
  have hz := sh.zts
  have hC1 := (by decide : ∀ C ∈ UT_worth_at_4_Sheet, C ∈ UT_keys_at_2_Sheet) _ hC
  simp only [f_all_at_eq]
  walk_at "tw"
  refine sh.meth List.mem_cons_self hC1 ?_
  walk_at "tw"
  refine ⟨sh.isA, C, n, fp, ts, lo, k, rfl, sh, h.imp (fun x hx => .inl hx) fun k0 k1 k2 h => .inl ?_⟩
  obtain ⟨k, rfl⟩ := Int.eq_ofNat_of_zero_le k0
  rw [Int.toNat_natCast] at h ⊢
  simp only [f_all_at_6_eq]
  walk_at "tw"
  refine ⟨md, rfl, hmd, ?_⟩
  by_cases hm : isMo md = true
  · rw [if_pos hm] at h
    obtain ⟨m, rfl⟩ := isMo_ex hm
    have h := h m rfl
    obtain ⟨hm0, hm1⟩ : 0 ≤ m ∧ m ≤ 1000000000000 := by simpa only [isMo, Bool.and_eq_true, decide_eq_true_eq] using hm
    rw [hm]
    walk_at "tw"
    simp only [f_all_at_5_eq]
    walk_at "tw"
    simp only [f_all_at_4_eq]
    walk_at "tw"
    have hkl := keysAt_len ts k
    refine loop_ind D.str (fun pre S => ∃ s5 s6, S = ⟨[some (.hnd n), some (.int m), some (.int (k : Nat)), some (.lst ((keysAt ts k).map D.str)), some (.hnd W.length), s5, s6], W ++ [.lst ((pre.filterMap fun key => (told (ts.take k) key m).map fun w => (key, w)).map awD)]⟩) (keysAt ts k) ⟨none, none, rfl⟩ (fun _ _ _ => trivial) ?_ ?_
    · rintro pre key post S hall ⟨s5, s6, rfl⟩ N hN
      have hpre : pre.length < (keysAt ts k).length := by rw [hall]; simp
      have hfl := List.length_filterMap_le (fun key => (told (ts.take k) key m).map fun w => (key, w)) pre
      have hkey : isNameS key = true := keysAt_name sh (show key ∈ keysAt ts k by rw [hall]; simp)
      have shg := sh.grow [O.lst ((pre.filterMap fun key => (told (ts.take k) key m).map fun w => (key, w)).map awD)]
      simp only [f_all_at_2_eq]
      walk_at "tw"
      refine shg.meth List.mem_cons_self hC ?_
      walk_at "tw"
      refine ⟨shg.isA, shg.ask_worth hkey hm0 hm1 (by omega) (by omega) ?_⟩
      have go : ∀ S, S = (⟨[some (.hnd n), some (.int m), some (.int (k : Nat)), some (.lst ((keysAt ts k).map D.str)), some (.hnd W.length), some (.str key), some (oS (told (ts.take k) key m))], W ++ [.lst (((pre ++ [key]).filterMap fun key => (told (ts.take k) key m).map fun w => (key, w)).map awD)]⟩ : AS) → N S := fun S e => hN S ⟨_, _, e⟩
      have fl : (pre.filterMap fun key => (told (ts.take k) key m).map fun w => (key, w)).length ≤ 900 := by omega
      rw [List.filterMap_append, List.map_append] at go
      simp only [List.filterMap_cons, List.filterMap_nil] at go
      generalize (pre.filterMap fun key => (told (ts.take k) key m).map fun w => (key, w)) = F at go fl ⊢
      simp only [f_all_at_1_eq]
      cases ho : told (ts.take k) key m with
      | none =>
        rw [ho] at go
        walk_at "tw"
        exact go _ (by simp [oS])
      | some w =>
        rw [ho] at go
        walk_at "tw"
        refine ⟨sz_lt (by omega), ?_⟩
        exact go _ (by simp [awD, oS])
    · rintro S ⟨s5, s6, rfl⟩
      simp only [f_all_at_3_eq]
      walk_at "tw"
      exact Done.own0 (g2 := []) (bels_of fun r _ => aw_bel _ r) h
  · rw [if_neg hm] at h
    rw [Bool.not_eq_true] at hm
    rw [hm]
    walk_at "tw"
    exact .inl h

def c_need_name : FC := fun ds W P X => ∃ d, ds = [d] ∧ plainD d = true ∧ if isNm d = true then P .non W else X noNm W
theorem len_need_name : ∀ ds W P X, c_need_name ds W P X → ds.length = 1 := by rintro ds W P X ⟨d, rfl, _⟩; rfl

theorem f_need_name_ex  : ∃ f : MS, f = (sIf (mNot (mTest (mCall c_is_name (mCons (mVar 0) mNil)))) (sRaise0 "NoName") sNext) := ⟨_, rfl⟩
noncomputable def f_need_name  : MS := Classical.choose (f_need_name_ex )
theorem f_need_name_eq  : f_need_name  = (sIf (mNot (mTest (mCall c_is_name (mCons (mVar 0) mNil)))) (sRaise0 "NoName") sNext) := Classical.choose_spec (f_need_name_ex )

theorem pure_need_name : ∀ ds W P X, c_need_name ds W P X → f_need_name ⟨startA 1 ds, W⟩ (fEnds W P X) := by
  rintro ds W P X ⟨d, rfl, hd, h⟩
  simp only [f_need_name_eq]
  walk_at "tw"
  refine ⟨d, rfl, hd, ?_⟩
  simp only
  cases e : isNm d with
  | true => rw [e] at h; exact .inl h
  | false => rw [e] at h; exact .inl h

def c_when : FC := fun ds W P X => ∃ C n fp ts lo kd wd k, ds = [.hnd n, kd, wd, .int k] ∧ C ∈ UT_line_at_3_Sheet ∧ plainD kd = true ∧ plainD wd = true ∧ Sh C W fp n ts ts lo ∧
  knAsk ts lo k (fun x => X x W) (if isNm kd = true then if isNm wd = true then ∀ key w, kd = .str key → wd = .str w → lstR P W ((whenR ts k.toNat key w).map seD) else X noNm W else X noNm W)
theorem len_when : ∀ ds W P X, c_when ds W P X → ds.length = 4 := by rintro ds W P X ⟨C, n, fp, ts, lo, kd, wd, k, rfl, _⟩; rfl
theorem f_when_1_ex  : ∃ f : MS, f = (sRet (mLC false [5] (M.bind (mVar 4) bIter) (gN 5) (mTest (mBin dEq (mBin dIx (mVar 5) (mC (.int 2))) (mVar 2))) (mTup (mCons (mBin dIx (mVar 5) (mC (.int 0))) (mCons (mBin dIx (mVar 5) (mC (.int 1))) mNil))))) := ⟨_, rfl⟩
noncomputable def f_when_1  : MS := Classical.choose (f_when_1_ex )
theorem f_when_1_eq  : f_when_1  = (sRet (mLC false [5] (M.bind (mVar 4) bIter) (gN 5) (mTest (mBin dEq (mBin dIx (mVar 5) (mC (.int 2))) (mVar 2))) (mTup (mCons (mBin dIx (mVar 5) (mC (.int 0))) (mCons (mBin dIx (mVar 5) (mC (.int 1))) mNil))))) := Classical.choose_spec (f_when_1_ex )
theorem f_when_2_ex  : ∃ f : MS, f = (sSeq (sExpr (mCall c_need_name (mCons (mVar 2) mNil))) f_when_1) := ⟨_, rfl⟩
noncomputable def f_when_2  : MS := Classical.choose (f_when_2_ex )
theorem f_when_2_eq  : f_when_2  = (sSeq (sExpr (mCall c_need_name (mCons (mVar 2) mNil))) f_when_1) := Classical.choose_spec (f_when_2_ex )
theorem f_when_ex  : ∃ f : MS, f = (sSeq (sSet 4 (mMeth "line_at" T_line_at_3 (mVar 0) (mCons (mVar 1) (mCons (mVar 3) mNil)))) f_when_2) := ⟨_, rfl⟩
noncomputable def f_when  : MS := Classical.choose (f_when_ex )
theorem f_when_eq  : f_when  = (sSeq (sSet 4 (mMeth "line_at" T_line_at_3 (mVar 0) (mCons (mVar 1) (mCons (mVar 3) mNil)))) f_when_2) := Classical.choose_spec (f_when_ex )

theorem pure_when : ∀ ds W P X, c_when ds W P X → f_when ⟨startA 6 ds, W⟩ (fEnds W P X) := by
  rintro ds W P X ⟨C, n, fp, ts, lo, kd, wd, k, rfl, hC, hkd, hwd, sh, h⟩
  simp only [f_when_eq]
  walk_at "tw"
  refine sh.meth List.mem_cons_self hC ?_
  walk_at "tw"
  refine ⟨sh.isA, C, n, fp, ts, lo, kd, k, rfl, hkd, sh, h.imp (fun x hx => .inl hx) fun k0 k1 k2 h => ?_⟩
  split
  · rename_i hk
    rw [if_pos hk] at h
    obtain ⟨key, rfl, _⟩ := isNm_str hk
    rintro key' e1
    cases e1
    refine .inl ?_
    simp only [f_when_2_eq]
    walk_at "tw"
    refine ⟨wd, rfl, hwd, ?_⟩
    split
    · rename_i hw
      rw [if_pos hw] at h
      obtain ⟨w, rfl, _⟩ := isNm_str hw
      have h := h key w rfl rfl
      simp only [f_when_1_eq]
      walk_at "tw"
      simp only [mLC]
      walk_at "tw"
      have hl := lineAt_len sh k.toNat key
      have g := lineAt_good sh k.toNat key
      refine lcL_map rowD (fun r => if r.2.2 = [some w] then some (seD r) else none) (fun r hr acc N q => ?_) (fun _ => trivial) (by simp; omega) ?_
      · obtain ⟨v, hv⟩ := g.fil r hr
        obtain ⟨b, e, t⟩ := r
        simp only at hv
        subst hv
        simp only [rowD_eq, lcTurn]
        walk_at "tw"
        simp only [wipeA]
        walk_at "tw"
        by_cases c : v = w
        · subst c
          rw [if_pos rfl] at q ⊢
          exact q
        · rw [if_neg (by simpa using c)] at q
          rw [if_neg c]
          exact q
      · have ef : (lineOf (ts.take k.toNat) key).filterMap (fun r => if r.2.2 = [some w] then some (seD r) else none) = (whenR ts k.toNat key w).map seD := by
          unfold whenR pickL
          rw [← List.filterMap_eq_map, List.filterMap_filter]
          congr 1
          funext r
          simp
        rw [ef, List.nil_append]
        exact lcFin_hnd (Done.own0 (g2 := []) (bels_of fun r _ => se_bel _ r) h)
    · rename_i hw
      rw [if_neg hw] at h
      exact .inl h
  · rename_i hk
    rw [if_neg hk] at h
    exact .inl h

def c_who : FC := fun ds W P X => ∃ C n fp ts lo wd k, ds = [.hnd n, wd, .int k] ∧ C ∈ UT_line_at_3_Sheet ∧ plainD wd = true ∧ Sh C W fp n ts ts lo ∧
  knAsk ts lo k (fun x => X x W) (if isNm wd = true then ∀ w, wd = .str w → lstR P W ((whoR ts k.toNat w).map whD) else X noNm W)
theorem len_who : ∀ ds W P X, c_who ds W P X → ds.length = 3 := by rintro ds W P X ⟨C, n, fp, ts, lo, wd, k, rfl, _⟩; rfl
theorem f_who_1_ex  : ∃ f : MS, f = (sExpr (mMt isLst gAppend (mVar 4) (mCons (mTup (mCons (mVar 5) (mCons (mVar 6) (mCons (mVar 7) mNil)))) mNil))) := ⟨_, rfl⟩
noncomputable def f_who_1  : MS := Classical.choose (f_who_1_ex )
theorem f_who_1_eq  : f_who_1  = (sExpr (mMt isLst gAppend (mVar 4) (mCons (mTup (mCons (mVar 5) (mCons (mVar 6) (mCons (mVar 7) mNil)))) mNil))) := Classical.choose_spec (f_who_1_ex )
theorem f_who_2_ex  : ∃ f : MS, f = (sFor (M.bind (mCall c_when (mCons (mVar 0) (mCons (mVar 5) (mCons (mVar 1) (mCons (mVar 2) mNil))))) bIter) (gTup 2 (gCons (gN 6) (gCons (gN 7) gNil))) f_who_1) := ⟨_, rfl⟩
noncomputable def f_who_2  : MS := Classical.choose (f_who_2_ex )
theorem f_who_2_eq  : f_who_2  = (sFor (M.bind (mCall c_when (mCons (mVar 0) (mCons (mVar 5) (mCons (mVar 1) (mCons (mVar 2) mNil))))) bIter) (gTup 2 (gCons (gN 6) (gCons (gN 7) gNil))) f_who_1) := Classical.choose_spec (f_who_2_ex )
theorem f_who_3_ex  : ∃ f : MS, f = (sRet (mVar 4)) := ⟨_, rfl⟩
noncomputable def f_who_3  : MS := Classical.choose (f_who_3_ex )
theorem f_who_3_eq  : f_who_3  = (sRet (mVar 4)) := Classical.choose_spec (f_who_3_ex )
theorem f_who_4_ex  : ∃ f : MS, f = (sSeq (sFor (M.bind (mVar 3) bIter) (gN 5) f_who_2) f_who_3) := ⟨_, rfl⟩
noncomputable def f_who_4  : MS := Classical.choose (f_who_4_ex )
theorem f_who_4_eq  : f_who_4  = (sSeq (sFor (M.bind (mVar 3) bIter) (gN 5) f_who_2) f_who_3) := Classical.choose_spec (f_who_4_ex )
theorem f_who_5_ex  : ∃ f : MS, f = (sSeq (sSet 4 (mLst true mNil)) f_who_4) := ⟨_, rfl⟩
noncomputable def f_who_5  : MS := Classical.choose (f_who_5_ex )
theorem f_who_5_eq  : f_who_5  = (sSeq (sSet 4 (mLst true mNil)) f_who_4) := Classical.choose_spec (f_who_5_ex )
theorem f_who_6_ex  : ∃ f : MS, f = (sSeq (sExpr (mCall c_need_name (mCons (mVar 1) mNil))) f_who_5) := ⟨_, rfl⟩
noncomputable def f_who_6  : MS := Classical.choose (f_who_6_ex )
theorem f_who_6_eq  : f_who_6  = (sSeq (sExpr (mCall c_need_name (mCons (mVar 1) mNil))) f_who_5) := Classical.choose_spec (f_who_6_ex )
theorem f_who_ex  : ∃ f : MS, f = (sSeq (sSet 3 (mMeth "keys_at" T_keys_at_2 (mVar 0) (mCons (mVar 2) mNil))) f_who_6) := ⟨_, rfl⟩
noncomputable def f_who  : MS := Classical.choose (f_who_ex )
theorem f_who_eq  : f_who  = (sSeq (sSet 3 (mMeth "keys_at" T_keys_at_2 (mVar 0) (mCons (mVar 2) mNil))) f_who_6) := Classical.choose_spec (f_who_ex )

theorem pure_who : ∀ ds W P X, c_who ds W P X → f_who ⟨startA 8 ds, W⟩ (fEnds W P X) := by
  rintro ds W P X ⟨C, n, fp, ts, lo, wd, k, rfl, hC, hwd, sh, h⟩
  have hz := sh.zts
  have hC1 := (by decide : ∀ C ∈ UT_line_at_3_Sheet, C ∈ UT_keys_at_2_Sheet) _ hC
  simp only [f_who_eq]
  walk_at "tw"
  refine sh.meth List.mem_cons_self hC1 ?_
  walk_at "tw"
  refine ⟨sh.isA, C, n, fp, ts, lo, k, rfl, sh, h.imp (fun x hx => .inl hx) fun k0 k1 k2 h => .inl ?_⟩
  simp only [f_who_6_eq]
  walk_at "tw"
  refine ⟨wd, rfl, hwd, ?_⟩
  split
  · rename_i hw
    rw [if_pos hw] at h
    obtain ⟨w, rfl, _⟩ := isNm_str hw
    have h := h w rfl
    simp only [f_who_5_eq]
    walk_at "tw"
    simp only [f_who_4_eq]
    walk_at "tw"
    have nd := keysAt_nodup ts k.toNat
    have part : ∀ ks : List Str, ks.Nodup → ((ks.map fun key => (whenR ts k.toNat key w).map fun r => (key, r)).flatten).length ≤ 2 * ts.length := fun ks nd => who_part sh.okts (by omega) w nd
    refine loop_ind D.str (fun pre S => ∃ s5 s6 s7, S = ⟨[some (.hnd n), some (.str w), some (.int k), some (.lst ((keysAt ts k.toNat).map D.str)), some (.hnd W.length), s5, s6, s7], W ++ [.lst (((pre.map fun key => (whenR ts k.toNat key w).map fun r => (key, r)).flatten).map whD)]⟩) (keysAt ts k.toNat) ⟨none, none, none, rfl⟩ (fun _ _ _ => trivial) ?_ ?_
    · rintro pre key post S hall ⟨s5, s6, s7, rfl⟩ N hN
      have hkey : isNameS key = true := keysAt_name sh (show key ∈ keysAt ts k.toNat by rw [hall]; simp)
      have nd2 : (pre ++ [key]).Nodup := by
        rw [hall] at nd
        have : pre ++ key :: post = (pre ++ [key]) ++ post := by simp
        rw [this] at nd
        exact (List.nodup_append.mp nd).1
      have hp2 := part _ nd2
      have go : ∀ s6 s7, N ⟨[some (.hnd n), some (.str w), some (.int k), some (.lst ((keysAt ts k.toNat).map D.str)), some (.hnd W.length), some (.str key), s6, s7], W ++ [.lst (((pre.map fun key => (whenR ts k.toNat key w).map fun r => (key, r)).flatten ++ (whenR ts k.toNat key w).map fun r => (key, r)).map whD)]⟩ := fun s6 s7 =>
        hN _ ⟨some (.str key), s6, s7, by simp⟩
      simp only [List.map_append, List.flatten_append, List.map_cons, List.map_nil, List.flatten_cons, List.flatten_nil, List.append_nil] at hp2
      generalize (pre.map fun key => (whenR ts k.toNat key w).map fun r => (key, r)).flatten = F at hp2 go ⊢
      have shg := sh.grow [O.lst (F.map whD)]
      simp only [f_who_2_eq]
      walk_at "tw"
      refine ⟨C, n, fp, ts, lo, .str key, .str w, k, rfl, hC, plain_name hkey, hwd, shg, knAsk_ok (by omega) (by omega) (by omega) ?_⟩
      rw [if_pos (show isNm (.str key) = true from hkey), if_pos hw]
      rintro key' w' e1 e2
      cases e1
      cases e2
      refine .inl ?_
      walk_at "tw"
      generalize whenR ts k.toNat key w = R at hp2 go ⊢
      refine loop_ind seD (fun pr S => ∃ s6 s7, S = ⟨[some (.hnd n), some (.str w), some (.int k), some (.lst ((keysAt ts k.toNat).map D.str)), some (.hnd W.length), some (.str key), s6, s7], W ++ [.lst ((F ++ pr.map fun r => (key, r)).map whD)]⟩) R ⟨s6, s7, by simp⟩ (fun _ _ _ => trivial) ?_ ?_
      · rintro pr r po S hall2 ⟨s6, s7, rfl⟩ N2 hN2
        have hlr : pr.length < R.length := by rw [hall2]; simp
        obtain ⟨b, e, t⟩ := r
        simp only [seD, f_who_1_eq]
        walk_at "tw"
        refine ⟨sz_lt (by simp at hp2 ⊢; omega), ?_⟩
        exact hN2 _ ⟨some (.int b), some (oD e), by simp [whD]⟩
      · rintro S ⟨s6, s7, rfl⟩
        exact go s6 s7
    · rintro S ⟨s5, s6, s7, rfl⟩
      simp only [f_who_3_eq]
      walk_at "tw"
      exact Done.own0 (g2 := []) (bels_of fun r _ => wh_bel _ r) h
  · rename_i hw
    rw [if_neg hw] at h
    exact .inl h

/-- what a wrong question raises -/
def askX (ts : List Tel) (way : Int) (kd wd md : D) (k : Int) : Option Exn :=
  if 0 ≤ k ∧ k ≤ (ts.length : Nat) then
    if way = 0 then (if isMo md = true then none else some noSt)
    else if way = 1 then (if isNm kd = true then (if isNm wd = true then none else some noNm) else some noNm)
    else (if isNm wd = true then none else some noNm)
  else some noKn
theorem nm_str {d : D} (h : isNm d = true) : ∃ s, d = .str s := by
  cases d <;> simp [isNm] at h
  exact ⟨_, rfl⟩
theorem mo_int {d : D} (h : isMo d = true) : ∃ i, d = .int i := by
  cases d <;> simp [isMo] at h
  exact ⟨_, rfl⟩
def c__law_called : FC := fun ds W P X => ∃ n fp ts way kd wd md k, ds = [.hnd n, .int way, kd, wd, md, .int k] ∧ plainD kd = true ∧ plainD wd = true ∧ plainD md = true ∧ Sh "Sheet" W fp n ts ts 0 ∧ ts.length ≤ 200 ∧ (match askX ts way kd wd md k with
  | none => P .non W
  | some x => X x W)
theorem len__law_called : ∀ ds W P X, c__law_called ds W P X → ds.length = 6 := by rintro ds W P X ⟨_, _, _, _, _, _, _, _, rfl, _⟩; rfl

theorem f__law_called_ex  : ∃ f : MS, f = (sIf (mTest (mBin dEq (mVar 1) (mC (.int 0)))) (sExpr (mCall c_all_at (mCons (mVar 0) (mCons (mVar 4) (mCons (mVar 5) mNil))))) (sIf (mTest (mBin dEq (mVar 1) (mC (.int 1)))) (sExpr (mCall c_when (mCons (mVar 0) (mCons (mVar 2) (mCons (mVar 3) (mCons (mVar 5) mNil)))))) (sExpr (mCall c_who (mCons (mVar 0) (mCons (mVar 3) (mCons (mVar 5) mNil))))))) := ⟨_, rfl⟩
noncomputable def f__law_called  : MS := Classical.choose (f__law_called_ex )
theorem f__law_called_eq  : f__law_called  = (sIf (mTest (mBin dEq (mVar 1) (mC (.int 0)))) (sExpr (mCall c_all_at (mCons (mVar 0) (mCons (mVar 4) (mCons (mVar 5) mNil))))) (sIf (mTest (mBin dEq (mVar 1) (mC (.int 1)))) (sExpr (mCall c_when (mCons (mVar 0) (mCons (mVar 2) (mCons (mVar 3) (mCons (mVar 5) mNil)))))) (sExpr (mCall c_who (mCons (mVar 0) (mCons (mVar 3) (mCons (mVar 5) mNil))))))) := Classical.choose_spec (f__law_called_ex )

theorem pure__law_called : ∀ ds W P X, c__law_called ds W P X → f__law_called ⟨startA 6 ds, W⟩ (fEnds W P X) := by
  rintro ds W P X ⟨n, fp, ts, way, kd, wd, md, k, rfl, pk, pw, pm, sh, hz, h⟩
  have kn : ∀ (Y : Exn → Prop) (Q : Prop), (¬ (0 ≤ k ∧ k ≤ (ts.length : Nat)) → Y noKn) → ((0 ≤ k ∧ k ≤ (ts.length : Nat)) → Q) → knAsk ts 0 k Y Q := fun Y Q h1 h2 => by
    unfold knAsk
    by_cases c : 0 ≤ k ∧ k ≤ (ts.length : Nat)
    · rw [if_pos c, if_neg (by omega)]
      exact h2 c
    · rw [if_neg c]
      exact h1 c
  unfold askX at h
  simp only [f__law_called_eq]
  walk_at "tw"
  by_cases c0 : way = 0
  · rw [if_pos c0]
    simp only [if_pos c0] at h
    refine ⟨"Sheet", n, fp, ts, 0, md, k, rfl, by decide, pm, sh, kn _ _ (fun c => ?_) fun c => ?_⟩
    · rw [if_neg c] at h
      exact .inl h
    · rw [if_pos c] at h
      by_cases q : isMo md = true
      · rw [if_pos q] at h ⊢
        exact fun m e => .inl (.inl h)
      · rw [if_neg q] at h ⊢
        exact .inl h
  · rw [if_neg c0]
    simp only [if_neg c0] at h
    by_cases c1 : way = 1
    · rw [if_pos c1]
      simp only [if_pos c1] at h
      refine ⟨"Sheet", n, fp, ts, 0, kd, wd, k, rfl, by decide, pk, pw, sh, kn _ _ (fun c => ?_) fun c => ?_⟩
      · rw [if_neg c] at h
        exact .inl h
      · rw [if_pos c] at h
        by_cases q : isNm kd = true
        · rw [if_pos q] at h ⊢
          by_cases q2 : isNm wd = true
          · rw [if_pos q2] at h ⊢
            exact fun _ _ _ _ => .inl (.inl h)
          · rw [if_neg q2] at h ⊢
            exact .inl h
        · rw [if_neg q] at h ⊢
          exact .inl h
    · rw [if_neg c1]
      simp only [if_neg c1] at h
      refine ⟨"Sheet", n, fp, ts, 0, wd, k, rfl, by decide, pw, sh, kn _ _ (fun c => ?_) fun c => ?_⟩
      · rw [if_neg c] at h
        exact .inl h
      · rw [if_pos c] at h
        by_cases q : isNm wd = true
        · rw [if_pos q] at h ⊢
          exact fun _ _ => .inl (.inl h)
        · rw [if_neg q] at h ⊢
          exact .inl h

def askL (o : Option Exn) : D := match o with
  | none => .lst [.str "", .bl false, .bl false]
  | some x => .lst [.str (if x.cls = "NoKnowing" then "knowing" else if x.cls = "NoName" then "name" else "stretch"), .bl true, .bl false]
def c__law_asked : FC := fun ds W P X => ∃ n fp ts way kd wd md k, ds = [.hnd n, .int way, kd, wd, md, .int k] ∧ plainD kd = true ∧ plainD wd = true ∧ plainD md = true ∧ Sh "Sheet" W fp n ts ts 0 ∧ ts.length ≤ 200 ∧ P (askL (askX ts way kd wd md k)) W
theorem len__law_asked : ∀ ds W P X, c__law_asked ds W P X → ds.length = 6 := by rintro ds W P X ⟨_, _, _, _, _, _, _, _, rfl, _⟩; rfl
theorem f__law_asked_1_ex  : ∃ f : MS, f = (sExpr (mCall c__law_called (mCons (mVar 0) (mCons (mVar 1) (mCons (mVar 2) (mCons (mVar 3) (mCons (mVar 4) (mCons (mVar 5) mNil)))))))) := ⟨_, rfl⟩
noncomputable def f__law_asked_1  : MS := Classical.choose (f__law_asked_1_ex )
theorem f__law_asked_1_eq  : f__law_asked_1  = (sExpr (mCall c__law_called (mCons (mVar 0) (mCons (mVar 1) (mCons (mVar 2) (mCons (mVar 3) (mCons (mVar 4) (mCons (mVar 5) mNil)))))))) := Classical.choose_spec (f__law_asked_1_ex )
theorem f__law_asked_2_ex (a : Addr) (x : Exn) : ∃ f : MS, f = (sSet 6 (mLst false (mCons (mC (.str "knowing")) (mCons (mAndV (M.bind (mCons (mVar 7) (mCons (mC (.gb "TimesError")) mNil)) (bIsE a "TimesError" (subX x.cls "TimesError"))) (M.bind (mCons (mVar 7) (mCons (mC (.ty "ValueError")) mNil)) (bIsEt a "ValueError" true))) (mCons (mVar 8) mNil))))) := ⟨_, rfl⟩
noncomputable def f__law_asked_2 (a : Addr) (x : Exn) : MS := Classical.choose (f__law_asked_2_ex a x)
theorem f__law_asked_2_eq (a : Addr) (x : Exn) : f__law_asked_2 a x = (sSet 6 (mLst false (mCons (mC (.str "knowing")) (mCons (mAndV (M.bind (mCons (mVar 7) (mCons (mC (.gb "TimesError")) mNil)) (bIsE a "TimesError" (subX x.cls "TimesError"))) (M.bind (mCons (mVar 7) (mCons (mC (.ty "ValueError")) mNil)) (bIsEt a "ValueError" true))) (mCons (mVar 8) mNil))))) := Classical.choose_spec (f__law_asked_2_ex a x)
theorem f__law_asked_3_ex (a : Addr) (x : Exn) : ∃ f : MS, f = (sSeq (sSet 8 (mIsEs a ((["Broken", "Forgotten", "NoFit", "NoLog", "NoName", "NoRow", "NoSheet", "NoStretch"] : List Str).any (subX x.cls)) (mVar 7))) (f__law_asked_2 a x)) := ⟨_, rfl⟩
noncomputable def f__law_asked_3 (a : Addr) (x : Exn) : MS := Classical.choose (f__law_asked_3_ex a x)
theorem f__law_asked_3_eq (a : Addr) (x : Exn) : f__law_asked_3 a x = (sSeq (sSet 8 (mIsEs a ((["Broken", "Forgotten", "NoFit", "NoLog", "NoName", "NoRow", "NoSheet", "NoStretch"] : List Str).any (subX x.cls)) (mVar 7))) (f__law_asked_2 a x)) := Classical.choose_spec (f__law_asked_3_ex a x)
theorem f__law_asked_4_ex (a : Addr) (x : Exn) : ∃ f : MS, f = (sSet 6 (mLst false (mCons (mC (.str "name")) (mCons (mAndV (M.bind (mCons (mVar 7) (mCons (mC (.gb "TimesError")) mNil)) (bIsE a "TimesError" (subX x.cls "TimesError"))) (M.bind (mCons (mVar 7) (mCons (mC (.ty "ValueError")) mNil)) (bIsEt a "ValueError" true))) (mCons (mVar 8) mNil))))) := ⟨_, rfl⟩
noncomputable def f__law_asked_4 (a : Addr) (x : Exn) : MS := Classical.choose (f__law_asked_4_ex a x)
theorem f__law_asked_4_eq (a : Addr) (x : Exn) : f__law_asked_4 a x = (sSet 6 (mLst false (mCons (mC (.str "name")) (mCons (mAndV (M.bind (mCons (mVar 7) (mCons (mC (.gb "TimesError")) mNil)) (bIsE a "TimesError" (subX x.cls "TimesError"))) (M.bind (mCons (mVar 7) (mCons (mC (.ty "ValueError")) mNil)) (bIsEt a "ValueError" true))) (mCons (mVar 8) mNil))))) := Classical.choose_spec (f__law_asked_4_ex a x)
theorem f__law_asked_5_ex (a : Addr) (x : Exn) : ∃ f : MS, f = (sSeq (sSet 8 (mIsEs a ((["Broken", "Forgotten", "NoFit", "NoLog", "NoKnowing", "NoRow", "NoSheet", "NoStretch"] : List Str).any (subX x.cls)) (mVar 7))) (f__law_asked_4 a x)) := ⟨_, rfl⟩
noncomputable def f__law_asked_5 (a : Addr) (x : Exn) : MS := Classical.choose (f__law_asked_5_ex a x)
theorem f__law_asked_5_eq (a : Addr) (x : Exn) : f__law_asked_5 a x = (sSeq (sSet 8 (mIsEs a ((["Broken", "Forgotten", "NoFit", "NoLog", "NoKnowing", "NoRow", "NoSheet", "NoStretch"] : List Str).any (subX x.cls)) (mVar 7))) (f__law_asked_4 a x)) := Classical.choose_spec (f__law_asked_5_ex a x)
theorem f__law_asked_6_ex (a : Addr) (x : Exn) : ∃ f : MS, f = (sSet 6 (mLst false (mCons (mC (.str "stretch")) (mCons (mAndV (M.bind (mCons (mVar 7) (mCons (mC (.gb "TimesError")) mNil)) (bIsE a "TimesError" (subX x.cls "TimesError"))) (M.bind (mCons (mVar 7) (mCons (mC (.ty "ValueError")) mNil)) (bIsEt a "ValueError" true))) (mCons (mVar 8) mNil))))) := ⟨_, rfl⟩
noncomputable def f__law_asked_6 (a : Addr) (x : Exn) : MS := Classical.choose (f__law_asked_6_ex a x)
theorem f__law_asked_6_eq (a : Addr) (x : Exn) : f__law_asked_6 a x = (sSet 6 (mLst false (mCons (mC (.str "stretch")) (mCons (mAndV (M.bind (mCons (mVar 7) (mCons (mC (.gb "TimesError")) mNil)) (bIsE a "TimesError" (subX x.cls "TimesError"))) (M.bind (mCons (mVar 7) (mCons (mC (.ty "ValueError")) mNil)) (bIsEt a "ValueError" true))) (mCons (mVar 8) mNil))))) := Classical.choose_spec (f__law_asked_6_ex a x)
theorem f__law_asked_7_ex (a : Addr) (x : Exn) : ∃ f : MS, f = (sSeq (sSet 8 (mIsEs a ((["Broken", "Forgotten", "NoFit", "NoLog", "NoName", "NoRow", "NoSheet", "NoKnowing"] : List Str).any (subX x.cls)) (mVar 7))) (f__law_asked_6 a x)) := ⟨_, rfl⟩
noncomputable def f__law_asked_7 (a : Addr) (x : Exn) : MS := Classical.choose (f__law_asked_7_ex a x)
theorem f__law_asked_7_eq (a : Addr) (x : Exn) : f__law_asked_7 a x = (sSeq (sSet 8 (mIsEs a ((["Broken", "Forgotten", "NoFit", "NoLog", "NoName", "NoRow", "NoSheet", "NoKnowing"] : List Str).any (subX x.cls)) (mVar 7))) (f__law_asked_6 a x)) := Classical.choose_spec (f__law_asked_7_ex a x)
theorem f__law_asked_8_ex  : ∃ f : MS, f = (sRet (mVar 6)) := ⟨_, rfl⟩
noncomputable def f__law_asked_8  : MS := Classical.choose (f__law_asked_8_ex )
theorem f__law_asked_8_eq  : f__law_asked_8  = (sRet (mVar 6)) := Classical.choose_spec (f__law_asked_8_ex )
theorem f__law_asked_9_ex  : ∃ f : MS, f = (sSeq (sTry 7 (["NoKnowing", "NoName", "NoStretch"] : List Str) f__law_asked_1 fun a x => suitOf x.cls [((["NoKnowing"] : List Str), (f__law_asked_3 a x)), ((["NoName"] : List Str), (f__law_asked_5 a x)), ((["NoStretch"] : List Str), (f__law_asked_7 a x))]) f__law_asked_8) := ⟨_, rfl⟩
noncomputable def f__law_asked_9  : MS := Classical.choose (f__law_asked_9_ex )
theorem f__law_asked_9_eq  : f__law_asked_9  = (sSeq (sTry 7 (["NoKnowing", "NoName", "NoStretch"] : List Str) f__law_asked_1 fun a x => suitOf x.cls [((["NoKnowing"] : List Str), (f__law_asked_3 a x)), ((["NoName"] : List Str), (f__law_asked_5 a x)), ((["NoStretch"] : List Str), (f__law_asked_7 a x))]) f__law_asked_8) := Classical.choose_spec (f__law_asked_9_ex )
theorem f__law_asked_ex  : ∃ f : MS, f = (sSeq (sSet 6 (mLst false (mCons (mC (.str "")) (mCons (mC (.bl false)) (mCons (mC (.bl false)) mNil))))) f__law_asked_9) := ⟨_, rfl⟩
noncomputable def f__law_asked  : MS := Classical.choose (f__law_asked_ex )
theorem f__law_asked_eq  : f__law_asked  = (sSeq (sSet 6 (mLst false (mCons (mC (.str "")) (mCons (mC (.bl false)) (mCons (mC (.bl false)) mNil))))) f__law_asked_9) := Classical.choose_spec (f__law_asked_ex )

theorem pure__law_asked : ∀ ds W P X, c__law_asked ds W P X → f__law_asked ⟨startA 9 ds, W⟩ (fEnds W P X) := by
  rintro ds W P X ⟨n, fp, ts, way, kd, wd, md, k, rfl, pk, pw, pm, sh, hz, h⟩
  have vk : (askX ts way kd wd md k) = none ∨ (askX ts way kd wd md k) = some noKn ∨ (askX ts way kd wd md k) = some noNm ∨ (askX ts way kd wd md k) = some noSt := by
    unfold askX
    repeat' split
    all_goals simp
  generalize ho : askX ts way kd wd md k = o at h vk
  simp only [f__law_asked_eq]
  walk_at "tw"
  simp only [f__law_asked_9_eq]
  walk_at "tw"
  simp only [f__law_asked_1_eq]
  walk_at "tw"
  refine ⟨n, fp, ts, way, kd, wd, md, k, rfl, pk, pw, pm, sh, hz, ?_⟩
  rw [ho]
  have e1 : ∀ x : Exn, x.cls = "NoKnowing" ∨ x.cls = "NoName" ∨ x.cls = "NoStretch" → subX x.cls "TimesError" = true := by
    rintro x (e | e | e) <;> rw [e] <;> decide +kernel
  rcases vk with rfl | rfl | rfl | rfl
  · simp only [f__law_asked_8_eq]
    walk_at "tw"
    exact .inl h
  · refine ⟨⟨by decide, rfl⟩, fun a => ?_⟩
    have e3 : ((["Broken", "Forgotten", "NoFit", "NoLog", "NoName", "NoRow", "NoSheet", "NoStretch"] : List Str).any (subX noKn.cls)) = false := by decide +kernel
    rw [suit_here (by decide)]
    simp only [f__law_asked_3_eq, e3]
    walk_at "tw"
    simp only [f__law_asked_2_eq, e1 noKn (.inl rfl)]
    walk_at "tw"
    simp only [f__law_asked_8_eq]
    walk_at "tw"
    exact .inl h
  · refine ⟨⟨by decide, rfl⟩, fun a => ?_⟩
    have e3 : ((["Broken", "Forgotten", "NoFit", "NoLog", "NoKnowing", "NoRow", "NoSheet", "NoStretch"] : List Str).any (subX noNm.cls)) = false := by decide +kernel
    rw [suit_skip (ys := ["NoName"]) (by decide), suit_here (by decide)]
    simp only [f__law_asked_5_eq, e3]
    walk_at "tw"
    simp only [f__law_asked_4_eq, e1 noNm (.inr (.inl rfl))]
    walk_at "tw"
    simp only [f__law_asked_8_eq]
    walk_at "tw"
    exact .inl h
  · refine ⟨⟨by decide, rfl⟩, fun a => ?_⟩
    have e3 : ((["Broken", "Forgotten", "NoFit", "NoLog", "NoName", "NoRow", "NoSheet", "NoKnowing"] : List Str).any (subX noSt.cls)) = false := by decide +kernel
    rw [suit_skip (ys := ["NoStretch"]) (by decide), suit_skip (ys := ["NoStretch"]) (by decide), suit_here (by decide)]
    simp only [f__law_asked_7_eq, e3]
    walk_at "tw"
    simp only [f__law_asked_6_eq, e1 noSt (.inr (.inr rfl))]
    walk_at "tw"
    simp only [f__law_asked_8_eq]
    walk_at "tw"
    exact .inl h

def cellAt (ns : List Int) (k : Nat) : Int := ns.getD k 0
def c__law_cell_at : FC := fun ds W P _ => ∃ (ns : List Int) (k : Nat), ds = [.sq (ns.map D.int), .int k] ∧ P (.int (cellAt ns k)) W
theorem len__law_cell_at : ∀ ds W P X, c__law_cell_at ds W P X → ds.length = 2 := by rintro ds W P X ⟨a, b, rfl, _⟩; rfl
theorem cellAt_ok {ns : List Int} {k : Nat} {W : Wd} {P : D → Wd → Prop} {X : Exn → Wd → Prop} (h : P (.int (cellAt ns k)) W) : c__law_cell_at [.sq (ns.map D.int), .int k] W P X := ⟨ns, k, rfl, h⟩
theorem f__law_cell_at_1_ex  : ∃ f : MS, f = (sRet (mC (.int 0))) := ⟨_, rfl⟩
noncomputable def f__law_cell_at_1  : MS := Classical.choose (f__law_cell_at_1_ex )
theorem f__law_cell_at_1_eq  : f__law_cell_at_1  = (sRet (mC (.int 0))) := Classical.choose_spec (f__law_cell_at_1_ex )
theorem f__law_cell_at_ex  : ∃ f : MS, f = (sSeq (sIf (mTest (mBin dLt (mVar 1) (M.bind (mCons (mVar 0) mNil) bLen))) (sRet (mBin dIx (mVar 0) (mVar 1))) sNext) f__law_cell_at_1) := ⟨_, rfl⟩
noncomputable def f__law_cell_at  : MS := Classical.choose (f__law_cell_at_ex )
theorem f__law_cell_at_eq  : f__law_cell_at  = (sSeq (sIf (mTest (mBin dLt (mVar 1) (M.bind (mCons (mVar 0) mNil) bLen))) (sRet (mBin dIx (mVar 0) (mVar 1))) sNext) f__law_cell_at_1) := Classical.choose_spec (f__law_cell_at_ex )

theorem pure__law_cell_at : ∀ ds W P X, c__law_cell_at ds W P X → f__law_cell_at ⟨startA 2 ds, W⟩ (fEnds W P X) := by
  rintro ds W P X ⟨ns, k, rfl, h⟩
  simp only [f__law_cell_at_eq, f__law_cell_at_1_eq]
  walk_at "tw"
  by_cases hk : (k : Int) < (ns.length : Int)
  · have hk' : k < ns.length := by omega
    rw [if_pos hk, atI_of (a := D.int ns[k]) (by simp [hk'])]
    exact .inl (by simpa [cellAt, List.getD, hk'] using h)
  · have hk' : ¬ k < ns.length := by omega
    rw [if_neg hk]
    exact .inl (by simpa [cellAt, List.getD, hk'] using h)

def goodX (way : Int) (g0 g1 g2 g3 : Bool) : Option Exn :=
  if g3 = false then some noKn
  else if way = 1 ∧ g0 = false ∨ way > 0 ∧ g1 = false then some noNm
  else if way = 0 ∧ g2 = false then some noSt
  else none
def c__law_due : FC := fun ds W P X => ∃ (way : Int) (g0 g1 g2 g3 : Bool), ds = [.int way, .lst [.bl g0, .bl g1, .bl g2, .bl g3]] ∧ P (askL (goodX way g0 g1 g2 g3)) W
theorem len__law_due : ∀ ds W P X, c__law_due ds W P X → ds.length = 2 := by rintro ds W P X ⟨_, _, _, _, _, rfl, _⟩; rfl
theorem f__law_due_1_ex  : ∃ f : MS, f = (sRet (mLst false (mCons (mC (.str "")) (mCons (mC (.bl false)) (mCons (mC (.bl false)) mNil))))) := ⟨_, rfl⟩
noncomputable def f__law_due_1  : MS := Classical.choose (f__law_due_1_ex )
theorem f__law_due_1_eq  : f__law_due_1  = (sRet (mLst false (mCons (mC (.str "")) (mCons (mC (.bl false)) (mCons (mC (.bl false)) mNil))))) := Classical.choose_spec (f__law_due_1_ex )
theorem f__law_due_2_ex  : ∃ f : MS, f = (sSeq (sIf (mAnd (mTest (mBin dEq (mVar 0) (mC (.int 0)))) (mNot (mTest (mBin dIx (mVar 1) (mC (.int 2)))))) (sRet (mLst false (mCons (mC (.str "stretch")) (mCons (mC (.bl true)) (mCons (mC (.bl false)) mNil))))) sNext) f__law_due_1) := ⟨_, rfl⟩
noncomputable def f__law_due_2  : MS := Classical.choose (f__law_due_2_ex )
theorem f__law_due_2_eq  : f__law_due_2  = (sSeq (sIf (mAnd (mTest (mBin dEq (mVar 0) (mC (.int 0)))) (mNot (mTest (mBin dIx (mVar 1) (mC (.int 2)))))) (sRet (mLst false (mCons (mC (.str "stretch")) (mCons (mC (.bl true)) (mCons (mC (.bl false)) mNil))))) sNext) f__law_due_1) := Classical.choose_spec (f__law_due_2_ex )
theorem f__law_due_3_ex  : ∃ f : MS, f = (sSeq (sIf (mOr (mAnd (mTest (mBin dEq (mVar 0) (mC (.int 1)))) (mNot (mTest (mBin dIx (mVar 1) (mC (.int 0)))))) (mAnd (mTest (mBin dGt (mVar 0) (mC (.int 0)))) (mNot (mTest (mBin dIx (mVar 1) (mC (.int 1))))))) (sRet (mLst false (mCons (mC (.str "name")) (mCons (mC (.bl true)) (mCons (mC (.bl false)) mNil))))) sNext) f__law_due_2) := ⟨_, rfl⟩
noncomputable def f__law_due_3  : MS := Classical.choose (f__law_due_3_ex )
theorem f__law_due_3_eq  : f__law_due_3  = (sSeq (sIf (mOr (mAnd (mTest (mBin dEq (mVar 0) (mC (.int 1)))) (mNot (mTest (mBin dIx (mVar 1) (mC (.int 0)))))) (mAnd (mTest (mBin dGt (mVar 0) (mC (.int 0)))) (mNot (mTest (mBin dIx (mVar 1) (mC (.int 1))))))) (sRet (mLst false (mCons (mC (.str "name")) (mCons (mC (.bl true)) (mCons (mC (.bl false)) mNil))))) sNext) f__law_due_2) := Classical.choose_spec (f__law_due_3_ex )
theorem f__law_due_ex  : ∃ f : MS, f = (sSeq (sIf (mNot (mTest (mBin dIx (mVar 1) (mC (.int 3))))) (sRet (mLst false (mCons (mC (.str "knowing")) (mCons (mC (.bl true)) (mCons (mC (.bl false)) mNil))))) sNext) f__law_due_3) := ⟨_, rfl⟩
noncomputable def f__law_due  : MS := Classical.choose (f__law_due_ex )
theorem f__law_due_eq  : f__law_due  = (sSeq (sIf (mNot (mTest (mBin dIx (mVar 1) (mC (.int 3))))) (sRet (mLst false (mCons (mC (.str "knowing")) (mCons (mC (.bl true)) (mCons (mC (.bl false)) mNil))))) sNext) f__law_due_3) := Classical.choose_spec (f__law_due_ex )

theorem pure__law_due : ∀ ds W P X, c__law_due ds W P X → f__law_due ⟨startA 2 ds, W⟩ (fEnds W P X) := by
  rintro ds W P X ⟨way, g0, g1, g2, g3, rfl, h⟩
  simp only [f__law_due_eq]
  walk_at "tw"
  unfold goodX at h
  cases g3 with
  | false =>
    simp only [if_true] at h ⊢
    exact .inl h
  | true =>
    simp only [Bool.true_eq_false, if_false] at h ⊢
    simp only [f__law_due_3_eq]
    walk_at "tw"
    simp only [f__law_due_2_eq]
    walk_at "tw"
    simp only [f__law_due_1_eq]
    walk_at "tw"
    by_cases c1 : way = 1
    · subst c1
      cases g0 <;> cases g1 <;> cases g2 <;> simp at h ⊢ <;> exact .inl h
    · by_cases c0 : way = 0
      · subst c0
        cases g0 <;> cases g1 <;> cases g2 <;> simp at h ⊢ <;> exact .inl h
      · by_cases c2 : way > 0
        · have c3 : 0 < way := c2
          cases g0 <;> cases g1 <;> cases g2 <;> simp [c1, c0, c2, c3] at h ⊢ <;> exact .inl h
        · have c3 : ¬ 0 < way := c2
          cases g0 <;> cases g1 <;> cases g2 <;> simp [c1, c0, c2, c3] at h ⊢ <;> exact .inl h

def c__law_by_digits : FC := fun ds W P _ => ∃ (c : Int) (ks ws : List Str), ds = [.int c, .lst (ks.map D.str), .lst (ws.map D.str)] ∧ 4 ≤ ks.length ∧ 3 ≤ ws.length ∧ (∀ k ∈ ks, isNameS k = true) ∧ (∀ k ∈ ws, isNameS k = true) ∧
  ∀ t : Tel, okTel t → t.key ∈ ks → (∀ w, t.w = some w → w ∈ ws) → P (telD t) W
theorem len__law_by_digits : ∀ ds W P X, c__law_by_digits ds W P X → ds.length = 3 := by rintro ds W P X ⟨a, b, c, rfl, _⟩; rfl
theorem f__law_by_digits_1_ex  : ∃ f : MS, f = (sRet (mTup (mCons (mC (.str "put")) (mCons (mBin dIx (mVar 1) (mBin dMod (mVar 0) (mC (.int 4)))) (mCons (mBin dIx (mVar 2) (mBin dMod (mBin dDiv (mVar 0) (mC (.int 16))) (mC (.int 3)))) (mCons (mVar 3) (mCons (mVar 4) mNil))))))) := ⟨_, rfl⟩
noncomputable def f__law_by_digits_1  : MS := Classical.choose (f__law_by_digits_1_ex )
theorem f__law_by_digits_1_eq  : f__law_by_digits_1  = (sRet (mTup (mCons (mC (.str "put")) (mCons (mBin dIx (mVar 1) (mBin dMod (mVar 0) (mC (.int 4)))) (mCons (mBin dIx (mVar 2) (mBin dMod (mBin dDiv (mVar 0) (mC (.int 16))) (mC (.int 3)))) (mCons (mVar 3) (mCons (mVar 4) mNil))))))) := Classical.choose_spec (f__law_by_digits_1_ex )
theorem f__law_by_digits_2_ex  : ∃ f : MS, f = (sSeq (sIf (mTest (mBin dEq (mBin dMod (mBin dDiv (mVar 0) (mC (.int 4))) (mC (.int 4))) (mC (.int 0)))) (sRet (mTup (mCons (mC (.str "clear")) (mCons (mBin dIx (mVar 1) (mBin dMod (mVar 0) (mC (.int 4)))) (mCons (mVar 3) (mCons (mVar 4) mNil)))))) sNext) f__law_by_digits_1) := ⟨_, rfl⟩
noncomputable def f__law_by_digits_2  : MS := Classical.choose (f__law_by_digits_2_ex )
theorem f__law_by_digits_2_eq  : f__law_by_digits_2  = (sSeq (sIf (mTest (mBin dEq (mBin dMod (mBin dDiv (mVar 0) (mC (.int 4))) (mC (.int 4))) (mC (.int 0)))) (sRet (mTup (mCons (mC (.str "clear")) (mCons (mBin dIx (mVar 1) (mBin dMod (mVar 0) (mC (.int 4)))) (mCons (mVar 3) (mCons (mVar 4) mNil)))))) sNext) f__law_by_digits_1) := Classical.choose_spec (f__law_by_digits_2_ex )
theorem f__law_by_digits_3_ex  : ∃ f : MS, f = (sSeq (sIf (mOr (mTest (mBin dEq (mVar 4) (mVar 3))) (mTest (mBin dGt (mVar 4) (mBin dPow (mC (.int 10)) (mC (.int 12)))))) (sSet 4 (mC .non)) sNext) f__law_by_digits_2) := ⟨_, rfl⟩
noncomputable def f__law_by_digits_3  : MS := Classical.choose (f__law_by_digits_3_ex )
theorem f__law_by_digits_3_eq  : f__law_by_digits_3  = (sSeq (sIf (mOr (mTest (mBin dEq (mVar 4) (mVar 3))) (mTest (mBin dGt (mVar 4) (mBin dPow (mC (.int 10)) (mC (.int 12)))))) (sSet 4 (mC .non)) sNext) f__law_by_digits_2) := Classical.choose_spec (f__law_by_digits_3_ex )
theorem f__law_by_digits_4_ex  : ∃ f : MS, f = (sSeq (sIf (mAnd (mTest (mBin dEq (mVar 4) (mBin (dAdd false) (mVar 3) (mC (.int 7))))) (mTest (mBin dLt (mVar 3) (mBin dPow (mC (.int 10)) (mC (.int 12)))))) (sSet 4 (mBin (dAdd false) (mBin (dAdd false) (mVar 3) (mC (.int 1))) (mBin dMod (mBin dDiv (mBin dDiv (mVar 0) (mC (.int 384))) (mBin (dAdd false) (mBin dPow (mC (.int 10)) (mC (.int 12))) (mC (.int 1)))) (mBin dSub (mBin dPow (mC (.int 10)) (mC (.int 12))) (mVar 3))))) sNext) f__law_by_digits_3) := ⟨_, rfl⟩
noncomputable def f__law_by_digits_4  : MS := Classical.choose (f__law_by_digits_4_ex )
theorem f__law_by_digits_4_eq  : f__law_by_digits_4  = (sSeq (sIf (mAnd (mTest (mBin dEq (mVar 4) (mBin (dAdd false) (mVar 3) (mC (.int 7))))) (mTest (mBin dLt (mVar 3) (mBin dPow (mC (.int 10)) (mC (.int 12)))))) (sSet 4 (mBin (dAdd false) (mBin (dAdd false) (mVar 3) (mC (.int 1))) (mBin dMod (mBin dDiv (mBin dDiv (mVar 0) (mC (.int 384))) (mBin (dAdd false) (mBin dPow (mC (.int 10)) (mC (.int 12))) (mC (.int 1)))) (mBin dSub (mBin dPow (mC (.int 10)) (mC (.int 12))) (mVar 3))))) sNext) f__law_by_digits_3) := Classical.choose_spec (f__law_by_digits_4_ex )
theorem f__law_by_digits_5_ex  : ∃ f : MS, f = (sSeq (sSet 4 (mBin (dAdd false) (mVar 3) (mBin dMod (mBin dDiv (mVar 0) (mC (.int 48))) (mC (.int 8))))) f__law_by_digits_4) := ⟨_, rfl⟩
noncomputable def f__law_by_digits_5  : MS := Classical.choose (f__law_by_digits_5_ex )
theorem f__law_by_digits_5_eq  : f__law_by_digits_5  = (sSeq (sSet 4 (mBin (dAdd false) (mVar 3) (mBin dMod (mBin dDiv (mVar 0) (mC (.int 48))) (mC (.int 8))))) f__law_by_digits_4) := Classical.choose_spec (f__law_by_digits_5_ex )
theorem f__law_by_digits_ex  : ∃ f : MS, f = (sSeq (sSet 3 (mBin dMod (mBin dDiv (mVar 0) (mC (.int 384))) (mBin (dAdd false) (mBin dPow (mC (.int 10)) (mC (.int 12))) (mC (.int 1))))) f__law_by_digits_5) := ⟨_, rfl⟩
noncomputable def f__law_by_digits  : MS := Classical.choose (f__law_by_digits_ex )
theorem f__law_by_digits_eq  : f__law_by_digits  = (sSeq (sSet 3 (mBin dMod (mBin dDiv (mVar 0) (mC (.int 384))) (mBin (dAdd false) (mBin dPow (mC (.int 10)) (mC (.int 12))) (mC (.int 1))))) f__law_by_digits_5) := Classical.choose_spec (f__law_by_digits_ex )

theorem pure__law_by_digits : ∀ ds W P X, c__law_by_digits ds W P X → f__law_by_digits ⟨startA 5 ds, W⟩ (fEnds W P X) := by
  rintro ds W P X ⟨c, ks, ws, rfl, hk, hw, hkn, hwn, h⟩
  obtain ⟨key, hkey, ekey⟩ := pickD (enc := D.str) (l := ks) (Int.emod_nonneg c (show (4 : Int) ≠ 0 by decide)) (by have := Int.emod_lt_of_pos c (show (0 : Int) < 4 by decide); omega)
  obtain ⟨wo, hwo, ewo⟩ := pickD (enc := D.str) (l := ws) (Int.emod_nonneg (c / 16) (show (3 : Int) ≠ 0 by decide)) (by have := Int.emod_lt_of_pos (c / 16) (show (0 : Int) < 3 by decide); omega)
  have ok1 : isNameS key = true := hkn key hkey
  have ok2 : isNameS wo = true := hwn wo hwo
  have b0 := Int.emod_nonneg (c / 384) (show (1000000000001 : Int) ≠ 0 by decide)
  have b1 := Int.emod_lt_of_pos (c / 384) (show (0 : Int) < 1000000000001 by decide)
  simp only [f__law_by_digits_eq]
  walk_at "tw"
  generalize c / 384 % 1000000000001 = b at b0 b1 ⊢
  have fin : ∀ e : Option Int, okSt (b, e) → f__law_by_digits_2 ⟨[some (.int c), some (.lst (ks.map D.str)), some (.lst (ws.map D.str)), some (.int b), some (oD e)], W⟩ (fEnds W P X) := fun e ok => by
    have t1 := h ⟨key, none, b, e⟩ ⟨ok1, (fun _ z => nomatch z), ok⟩ hkey (fun _ z => nomatch z)
    have t2 := h ⟨key, some wo, b, e⟩ ⟨ok1, (fun w z => by cases z; exact ok2), ok⟩ hkey (fun w z => by cases z; exact hwo)
    simp only [f__law_by_digits_2_eq]
    walk_at "tw"
    simp only [ekey]
    split
    · exact .inl t1
    · simp only [f__law_by_digits_1_eq]
      walk_at "tw"
      simp only [ekey, ewo]
      exact ⟨cdivW (by decide) (by decide), .inl t2⟩
  have mid : ∀ e : Int, b ≤ e → f__law_by_digits_3 ⟨[some (.int c), some (.lst (ks.map D.str)), some (.lst (ws.map D.str)), some (.int b), some (.int e)], W⟩ (fEnds W P X) := fun e he => by
    simp only [f__law_by_digits_3_eq]
    walk_at "tw"
    have fN := fin none ⟨b0, by omega, fun _ z => nomatch z⟩
    simp only [oD] at fN
    split
    · exact fN
    · split
      · exact fN
      · exact fin (some e) ⟨b0, by omega, fun v z => by cases z; exact ⟨by simp only; omega, by omega⟩⟩
  simp only [fEnds] at fin mid
  simp only [f__law_by_digits_5_eq]
  walk_at "tw"
  simp only [f__law_by_digits_4_eq]
  walk_at "tw"
  refine ⟨cdivW (by decide) (by decide), cdivW (by decide) (by decide), ?_⟩
  split
  · split
    · refine ⟨cdivW (by decide) (by decide), cdivW (by decide) (by decide), by omega, mid _ ?_⟩
      have := Int.emod_nonneg (c / 384 / 1000000000001) (show (1000000000000 - b : Int) ≠ 0 by omega)
      omega
    · exact mid _ (by omega)
  · exact mid _ (by omega)

theorem tumF_ex : ∃ f : Int → Int → Int, ∀ c k, f c k = (((c % 1073676287 + 39916801 * (k + 1)) % 1073676287) * ((c % 1073676287 + 39916801 * (k + 1)) % 1073676287) % 1073676287 + 5 * k) * ((((c % 1073676287 + 39916801 * (k + 1)) % 1073676287) * ((c % 1073676287 + 39916801 * (k + 1)) % 1073676287) % 1073676287 + 5 * k) + 27644437) % 1000000007 := ⟨fun c k => (((c % 1073676287 + 39916801 * (k + 1)) % 1073676287) * ((c % 1073676287 + 39916801 * (k + 1)) % 1073676287) % 1073676287 + 5 * k) * ((((c % 1073676287 + 39916801 * (k + 1)) % 1073676287) * ((c % 1073676287 + 39916801 * (k + 1)) % 1073676287) % 1073676287 + 5 * k) + 27644437) % 1000000007, fun _ _ => rfl⟩
noncomputable def tumF : Int → Int → Int := Classical.choose tumF_ex
theorem tumF_eq (c k : Int) : tumF c k = (((c % 1073676287 + 39916801 * (k + 1)) % 1073676287) * ((c % 1073676287 + 39916801 * (k + 1)) % 1073676287) % 1073676287 + 5 * k) * ((((c % 1073676287 + 39916801 * (k + 1)) % 1073676287) * ((c % 1073676287 + 39916801 * (k + 1)) % 1073676287) % 1073676287 + 5 * k) + 27644437) % 1000000007 := Classical.choose_spec tumF_ex c k
theorem tumF_nn (c k : Int) : 0 ≤ tumF c k := by rw [tumF_eq]; exact Int.emod_nonneg _ (by decide)
theorem tumF_lt (c k : Int) : tumF c k < 1000000007 := by rw [tumF_eq]; exact Int.emod_lt_of_pos _ (by decide)
def c__law_tumbled : FC := fun ds W P _ => ∃ c k : Int, ds = [.int c, .int k] ∧ 0 ≤ k ∧ k ≤ 100000 ∧ P (.int (tumF c k)) W
theorem len__law_tumbled : ∀ ds W P X, c__law_tumbled ds W P X → ds.length = 2 := by rintro ds W P X ⟨a, b, rfl, _⟩; rfl
theorem tum_ok {c k : Int} {W : Wd} {P : D → Wd → Prop} {X : Exn → Wd → Prop} (h : P (.int (tumF c k)) W) (h0 : 0 ≤ k := by omega) (h1 : k ≤ 100000 := by omega) : c__law_tumbled [.int c, .int k] W P X := ⟨c, k, rfl, h0, h1, h⟩
theorem f__law_tumbled_1_ex  : ∃ f : MS, f = (sRet (mBin dMod (mBin dMul (mVar 2) (mBin (dAdd false) (mVar 2) (mC (.int 27644437)))) (mC (.int 1000000007)))) := ⟨_, rfl⟩
noncomputable def f__law_tumbled_1  : MS := Classical.choose (f__law_tumbled_1_ex )
theorem f__law_tumbled_1_eq  : f__law_tumbled_1  = (sRet (mBin dMod (mBin dMul (mVar 2) (mBin (dAdd false) (mVar 2) (mC (.int 27644437)))) (mC (.int 1000000007)))) := Classical.choose_spec (f__law_tumbled_1_ex )
theorem f__law_tumbled_2_ex  : ∃ f : MS, f = (sSeq (sSet 2 (mBin (dAdd false) (mBin dMod (mBin dMul (mVar 2) (mVar 2)) (mC (.int 1073676287))) (mBin dMul (mC (.int 5)) (mVar 1)))) f__law_tumbled_1) := ⟨_, rfl⟩
noncomputable def f__law_tumbled_2  : MS := Classical.choose (f__law_tumbled_2_ex )
theorem f__law_tumbled_2_eq  : f__law_tumbled_2  = (sSeq (sSet 2 (mBin (dAdd false) (mBin dMod (mBin dMul (mVar 2) (mVar 2)) (mC (.int 1073676287))) (mBin dMul (mC (.int 5)) (mVar 1)))) f__law_tumbled_1) := Classical.choose_spec (f__law_tumbled_2_ex )
theorem f__law_tumbled_ex  : ∃ f : MS, f = (sSeq (sSet 2 (mBin dMod (mBin (dAdd false) (mBin dMod (mVar 0) (mC (.int 1073676287))) (mBin dMul (mC (.int 39916801)) (mBin (dAdd false) (mVar 1) (mC (.int 1))))) (mC (.int 1073676287)))) f__law_tumbled_2) := ⟨_, rfl⟩
noncomputable def f__law_tumbled  : MS := Classical.choose (f__law_tumbled_ex )
theorem f__law_tumbled_eq  : f__law_tumbled  = (sSeq (sSet 2 (mBin dMod (mBin (dAdd false) (mBin dMod (mVar 0) (mC (.int 1073676287))) (mBin dMul (mC (.int 39916801)) (mBin (dAdd false) (mVar 1) (mC (.int 1))))) (mC (.int 1073676287)))) f__law_tumbled_2) := Classical.choose_spec (f__law_tumbled_ex )

theorem pure__law_tumbled : ∀ ds W P X, c__law_tumbled ds W P X → f__law_tumbled ⟨startA 3 ds, W⟩ (fEnds W P X) := by
  rintro ds W P X ⟨c, k, rfl, h0, h1, h⟩
  simp only [f__law_tumbled_eq]
  walk_at "tw"
  simp only [f__law_tumbled_2_eq]
  walk_at "tw"
  simp only [f__law_tumbled_1_eq]
  walk_at "tw"
  rw [tumF_eq] at h
  have a1 := Int.emod_nonneg (c % 1073676287 + 39916801 * (k + 1)) (show (1073676287 : Int) ≠ 0 by decide)
  have a2 := Int.emod_lt_of_pos (c % 1073676287 + 39916801 * (k + 1)) (show (0 : Int) < 1073676287 by decide)
  generalize (c % 1073676287 + 39916801 * (k + 1)) % 1073676287 = o at *
  have b1 := Int.emod_nonneg (o * o) (show (1073676287 : Int) ≠ 0 by decide)
  have b2 := Int.emod_lt_of_pos (o * o) (show (0 : Int) < 1073676287 by decide)
  generalize o * o % 1073676287 = p at *
  exact ⟨.inl (by omega), .inl (by omega), .inl (by omega), .inl (by omega), .inl h⟩

def c__law_stretch : FC := fun ds W P _ => ∃ c : Int, ds = [.int c] ∧ ∀ (b : Int) (e : Option Int), okSt (b, e) → P (.tup [.int b, oD e]) W
theorem len__law_stretch : ∀ ds W P X, c__law_stretch ds W P X → ds.length = 1 := by rintro ds W P X ⟨a, rfl, _⟩; rfl
theorem f__law_stretch_1_ex  : ∃ f : MS, f = (sRet (mTup (mCons (mVar 2) (mCons (M.bind (mCons (mBin dPow (mC (.int 10)) (mC (.int 12))) (mCons (mBin (dAdd false) (mBin (dAdd false) (mVar 2) (mC (.int 1))) (mBin dMod (mCall c__law_tumbled (mCons (mVar 0) (mCons (mC (.int 23)) mNil))) (mC (.int 6)))) mNil)) bMin) mNil)))) := ⟨_, rfl⟩
noncomputable def f__law_stretch_1  : MS := Classical.choose (f__law_stretch_1_ex )
theorem f__law_stretch_1_eq  : f__law_stretch_1  = (sRet (mTup (mCons (mVar 2) (mCons (M.bind (mCons (mBin dPow (mC (.int 10)) (mC (.int 12))) (mCons (mBin (dAdd false) (mBin (dAdd false) (mVar 2) (mC (.int 1))) (mBin dMod (mCall c__law_tumbled (mCons (mVar 0) (mCons (mC (.int 23)) mNil))) (mC (.int 6)))) mNil)) bMin) mNil)))) := Classical.choose_spec (f__law_stretch_1_ex )
theorem f__law_stretch_2_ex  : ∃ f : MS, f = (sSeq (sIf (mTest (mBin dEq (mBin dMod (mCall c__law_tumbled (mCons (mVar 0) (mCons (mC (.int 22)) mNil))) (mC (.int 5))) (mC (.int 1)))) (sRet (mTup (mCons (mVar 2) (mCons (mBin (dAdd false) (mBin (dAdd false) (mVar 2) (mC (.int 1))) (mBin dMod (mBin dMul (mCall c__law_tumbled (mCons (mVar 0) (mCons (mC (.int 23)) mNil))) (mC (.int 1000))) (mBin dSub (mBin dPow (mC (.int 10)) (mC (.int 12))) (mVar 2)))) mNil)))) sNext) f__law_stretch_1) := ⟨_, rfl⟩
noncomputable def f__law_stretch_2  : MS := Classical.choose (f__law_stretch_2_ex )
theorem f__law_stretch_2_eq  : f__law_stretch_2  = (sSeq (sIf (mTest (mBin dEq (mBin dMod (mCall c__law_tumbled (mCons (mVar 0) (mCons (mC (.int 22)) mNil))) (mC (.int 5))) (mC (.int 1)))) (sRet (mTup (mCons (mVar 2) (mCons (mBin (dAdd false) (mBin (dAdd false) (mVar 2) (mC (.int 1))) (mBin dMod (mBin dMul (mCall c__law_tumbled (mCons (mVar 0) (mCons (mC (.int 23)) mNil))) (mC (.int 1000))) (mBin dSub (mBin dPow (mC (.int 10)) (mC (.int 12))) (mVar 2)))) mNil)))) sNext) f__law_stretch_1) := Classical.choose_spec (f__law_stretch_2_ex )
theorem f__law_stretch_3_ex  : ∃ f : MS, f = (sSeq (sIf (mOr (mTest (mBin dEq (mBin dMod (mCall c__law_tumbled (mCons (mVar 0) (mCons (mC (.int 22)) mNil))) (mC (.int 5))) (mC (.int 0)))) (mTest (mBin dEq (mVar 2) (mBin dPow (mC (.int 10)) (mC (.int 12)))))) (sRet (mTup (mCons (mVar 2) (mCons (mC .non) mNil)))) sNext) f__law_stretch_2) := ⟨_, rfl⟩
noncomputable def f__law_stretch_3  : MS := Classical.choose (f__law_stretch_3_ex )
theorem f__law_stretch_3_eq  : f__law_stretch_3  = (sSeq (sIf (mOr (mTest (mBin dEq (mBin dMod (mCall c__law_tumbled (mCons (mVar 0) (mCons (mC (.int 22)) mNil))) (mC (.int 5))) (mC (.int 0)))) (mTest (mBin dEq (mVar 2) (mBin dPow (mC (.int 10)) (mC (.int 12)))))) (sRet (mTup (mCons (mVar 2) (mCons (mC .non) mNil)))) sNext) f__law_stretch_2) := Classical.choose_spec (f__law_stretch_3_ex )
theorem f__law_stretch_4_ex  : ∃ f : MS, f = (sSeq (sIf (mTest (mBin dEq (mVar 1) (mC (.int 1)))) (sSet 2 (mBin dIx (mLst false (mCons (mBin dPow (mC (.int 10)) (mC (.int 12))) (mCons (mBin dSub (mBin dPow (mC (.int 10)) (mC (.int 12))) (mC (.int 1))) (mCons (mC (.int 0)) (mCons (mBin dSub (mBin dPow (mC (.int 10)) (mC (.int 12))) (mC (.int 7))) mNil))))) (mBin dMod (mVar 2) (mC (.int 4))))) sNext) f__law_stretch_3) := ⟨_, rfl⟩
noncomputable def f__law_stretch_4  : MS := Classical.choose (f__law_stretch_4_ex )
theorem f__law_stretch_4_eq  : f__law_stretch_4  = (sSeq (sIf (mTest (mBin dEq (mVar 1) (mC (.int 1)))) (sSet 2 (mBin dIx (mLst false (mCons (mBin dPow (mC (.int 10)) (mC (.int 12))) (mCons (mBin dSub (mBin dPow (mC (.int 10)) (mC (.int 12))) (mC (.int 1))) (mCons (mC (.int 0)) (mCons (mBin dSub (mBin dPow (mC (.int 10)) (mC (.int 12))) (mC (.int 7))) mNil))))) (mBin dMod (mVar 2) (mC (.int 4))))) sNext) f__law_stretch_3) := Classical.choose_spec (f__law_stretch_4_ex )
theorem f__law_stretch_5_ex  : ∃ f : MS, f = (sSeq (sIf (mTest (mBin dEq (mVar 1) (mC (.int 0)))) (sSet 2 (mBin dMod (mBin dMul (mCall c__law_tumbled (mCons (mVar 0) (mCons (mC (.int 21)) mNil))) (mC (.int 1000))) (mBin (dAdd false) (mBin dPow (mC (.int 10)) (mC (.int 12))) (mC (.int 1))))) sNext) f__law_stretch_4) := ⟨_, rfl⟩
noncomputable def f__law_stretch_5  : MS := Classical.choose (f__law_stretch_5_ex )
theorem f__law_stretch_5_eq  : f__law_stretch_5  = (sSeq (sIf (mTest (mBin dEq (mVar 1) (mC (.int 0)))) (sSet 2 (mBin dMod (mBin dMul (mCall c__law_tumbled (mCons (mVar 0) (mCons (mC (.int 21)) mNil))) (mC (.int 1000))) (mBin (dAdd false) (mBin dPow (mC (.int 10)) (mC (.int 12))) (mC (.int 1))))) sNext) f__law_stretch_4) := Classical.choose_spec (f__law_stretch_5_ex )
theorem f__law_stretch_6_ex  : ∃ f : MS, f = (sSeq (sSet 2 (mBin dMod (mCall c__law_tumbled (mCons (mVar 0) (mCons (mC (.int 21)) mNil))) (mC (.int 12)))) f__law_stretch_5) := ⟨_, rfl⟩
noncomputable def f__law_stretch_6  : MS := Classical.choose (f__law_stretch_6_ex )
theorem f__law_stretch_6_eq  : f__law_stretch_6  = (sSeq (sSet 2 (mBin dMod (mCall c__law_tumbled (mCons (mVar 0) (mCons (mC (.int 21)) mNil))) (mC (.int 12)))) f__law_stretch_5) := Classical.choose_spec (f__law_stretch_6_ex )
theorem f__law_stretch_ex  : ∃ f : MS, f = (sSeq (sSet 1 (mBin dMod (mCall c__law_tumbled (mCons (mVar 0) (mCons (mC (.int 20)) mNil))) (mC (.int 8)))) f__law_stretch_6) := ⟨_, rfl⟩
noncomputable def f__law_stretch  : MS := Classical.choose (f__law_stretch_ex )
theorem f__law_stretch_eq  : f__law_stretch  = (sSeq (sSet 1 (mBin dMod (mCall c__law_tumbled (mCons (mVar 0) (mCons (mC (.int 20)) mNil))) (mC (.int 8)))) f__law_stretch_6) := Classical.choose_spec (f__law_stretch_ex )

theorem pure__law_stretch : ∀ ds W P X, c__law_stretch ds W P X → f__law_stretch ⟨startA 3 ds, W⟩ (fEnds W P X) := by
  rintro ds W P X ⟨c, rfl, h⟩
  have hN : ∀ b : Int, 0 ≤ b → b ≤ 1000000000000 → P (.tup [.int b, .non]) W := fun b h0 h1 => h b none ⟨h0, h1, fun _ z => nomatch z⟩
  have hS : ∀ b e : Int, 0 ≤ b → b < e → e ≤ 1000000000000 → P (.tup [.int b, .int e]) W := fun b e h0 h1 h2 => h b (some e) ⟨h0, by omega, fun v z => by cases z; exact ⟨h1, h2⟩⟩
  simp only [f__law_stretch_eq]
  walk_at "tw"
  refine tum_ok ?_
  walk_at "tw"
  generalize tumF c 20 % 8 = kind
  simp only [f__law_stretch_6_eq]
  walk_at "tw"
  refine tum_ok ?_
  have z0 := tumF_nn c 21
  have z1 := tumF_lt c 21
  generalize tumF c 21 = z at z0 z1
  walk_at "tw"
  have fin : ∀ b : Int, 0 ≤ b → b ≤ 1000000000000 → f__law_stretch_3 ⟨[some (.int c), some (.int kind), some (.int b)], W⟩ (fEnds W P X) := fun b h0 h1 => by
    simp only [f__law_stretch_3_eq]
    walk_at "tw"
    refine tum_ok ?_
    walk_at "tw"
    have eN := hN b h0 h1
    split
    · exact .inl eN
    · split
      · exact .inl eN
      · simp only [f__law_stretch_2_eq]
        walk_at "tw"
        refine tum_ok ?_
        walk_at "tw"
        have q0 := tumF_nn c 23
        have q1 := tumF_lt c 23
        split
        · refine tum_ok ?_
          walk_at "tw"
          have r0 := Int.emod_nonneg (tumF c 23 * 1000) (show (1000000000000 - b : Int) ≠ 0 by omega)
          have r1 := Int.emod_lt_of_pos (tumF c 23 * 1000) (show (0 : Int) < 1000000000000 - b by omega)
          exact ⟨.inl (by omega), by omega, .inl (hS b _ h0 (by omega) (by omega))⟩
        · simp only [f__law_stretch_1_eq]
          walk_at "tw"
          refine tum_ok ?_
          walk_at "tw"
          exact .inl (hS b _ h0 (by split <;> omega) (by split <;> omega))
  have mid : ∀ b : Int, 0 ≤ b → b ≤ 1000000000000 → f__law_stretch_4 ⟨[some (.int c), some (.int kind), some (.int b)], W⟩ (fEnds W P X) := fun b h0 h1 => by
    simp only [f__law_stretch_4_eq]
    walk_at "tw"
    simp only [fEnds] at fin
    split
    · obtain ⟨v, v0, v1, ev⟩ : ∃ v : Int, 0 ≤ v ∧ v ≤ 1000000000000 ∧ atI [D.int 1000000000000, D.int 999999999999, D.int 0, D.int 999999999993] (b % 4) = some (.int v) := by
        rcases (by omega : b % 4 = 0 ∨ b % 4 = 1 ∨ b % 4 = 2 ∨ b % 4 = 3) with q | q | q | q <;> rw [q]
        · exact ⟨1000000000000, by omega, by omega, rfl⟩
        · exact ⟨999999999999, by omega, by omega, rfl⟩
        · exact ⟨0, by omega, by omega, rfl⟩
        · exact ⟨999999999993, by omega, by omega, rfl⟩
      rw [ev]
      exact fin v v0 v1
    · exact fin b h0 h1
  simp only [fEnds] at fin mid
  simp only [f__law_stretch_5_eq]
  walk_at "tw"
  split
  · refine tum_ok ?_
    walk_at "tw"
    have r0 := Int.emod_nonneg (tumF c 21 * 1000) (show (1000000000001 : Int) ≠ 0 by omega)
    have r1 := Int.emod_lt_of_pos (tumF c 21 * 1000) (show (0 : Int) < 1000000000001 by omega)
    have := tumF_nn c 21
    have := tumF_lt c 21
    exact ⟨.inl (by omega), mid _ (by omega) (by omega)⟩
  · exact mid _ (by omega) (by omega)

def c__law_telling : FC := fun ds W P _ => ∃ (c : Int) (ks ws : List Str), ds = [.int c, .lst (ks.map D.str), .lst (ws.map D.str)] ∧ 4 ≤ ks.length ∧ 3 ≤ ws.length ∧ (∀ k ∈ ks, isNameS k = true) ∧ (∀ k ∈ ws, isNameS k = true) ∧
  ∀ t : Tel, okTel t → t.key ∈ ks → (∀ w, t.w = some w → w ∈ ws) → P (telD t) W
theorem len__law_telling : ∀ ds W P X, c__law_telling ds W P X → ds.length = 3 := by rintro ds W P X ⟨a, b, c, rfl, _⟩; rfl
theorem f__law_telling_1_ex  : ∃ f : MS, f = (sRet (mTup (mCons (mC (.str "put")) (mCons (mVar 3) (mCons (mBin dIx (mVar 2) (mBin dMod (mCall c__law_tumbled (mCons (mVar 0) (mCons (mC (.int 26)) mNil))) (mC (.int 3)))) (mCons (mVar 4) (mCons (mVar 5) mNil))))))) := ⟨_, rfl⟩
noncomputable def f__law_telling_1  : MS := Classical.choose (f__law_telling_1_ex )
theorem f__law_telling_1_eq  : f__law_telling_1  = (sRet (mTup (mCons (mC (.str "put")) (mCons (mVar 3) (mCons (mBin dIx (mVar 2) (mBin dMod (mCall c__law_tumbled (mCons (mVar 0) (mCons (mC (.int 26)) mNil))) (mC (.int 3)))) (mCons (mVar 4) (mCons (mVar 5) mNil))))))) := Classical.choose_spec (f__law_telling_1_ex )
theorem f__law_telling_2_ex  : ∃ f : MS, f = (sSeq (sIf (mTest (mBin dEq (mBin dMod (mCall c__law_tumbled (mCons (mVar 0) (mCons (mC (.int 25)) mNil))) (mC (.int 4))) (mC (.int 0)))) (sRet (mTup (mCons (mC (.str "clear")) (mCons (mVar 3) (mCons (mVar 4) (mCons (mVar 5) mNil)))))) sNext) f__law_telling_1) := ⟨_, rfl⟩
noncomputable def f__law_telling_2  : MS := Classical.choose (f__law_telling_2_ex )
theorem f__law_telling_2_eq  : f__law_telling_2  = (sSeq (sIf (mTest (mBin dEq (mBin dMod (mCall c__law_tumbled (mCons (mVar 0) (mCons (mC (.int 25)) mNil))) (mC (.int 4))) (mC (.int 0)))) (sRet (mTup (mCons (mC (.str "clear")) (mCons (mVar 3) (mCons (mVar 4) (mCons (mVar 5) mNil)))))) sNext) f__law_telling_1) := Classical.choose_spec (f__law_telling_2_ex )
theorem f__law_telling_3_ex  : ∃ f : MS, f = (sSeq (sAsg (gTup 2 (gCons (gN 4) (gCons (gN 5) gNil))) (mCall c__law_stretch (mCons (mVar 0) mNil))) f__law_telling_2) := ⟨_, rfl⟩
noncomputable def f__law_telling_3  : MS := Classical.choose (f__law_telling_3_ex )
theorem f__law_telling_3_eq  : f__law_telling_3  = (sSeq (sAsg (gTup 2 (gCons (gN 4) (gCons (gN 5) gNil))) (mCall c__law_stretch (mCons (mVar 0) mNil))) f__law_telling_2) := Classical.choose_spec (f__law_telling_3_ex )
theorem f__law_telling_4_ex  : ∃ f : MS, f = (sSeq (sSet 3 (mBin dIx (mVar 1) (mBin dMod (mCall c__law_tumbled (mCons (mVar 0) (mCons (mC (.int 24)) mNil))) (mC (.int 4))))) f__law_telling_3) := ⟨_, rfl⟩
noncomputable def f__law_telling_4  : MS := Classical.choose (f__law_telling_4_ex )
theorem f__law_telling_4_eq  : f__law_telling_4  = (sSeq (sSet 3 (mBin dIx (mVar 1) (mBin dMod (mCall c__law_tumbled (mCons (mVar 0) (mCons (mC (.int 24)) mNil))) (mC (.int 4))))) f__law_telling_3) := Classical.choose_spec (f__law_telling_4_ex )
theorem f__law_telling_ex  : ∃ f : MS, f = (sSeq (sIf (mTest (mBin dEq (mBin dMod (mVar 0) (mC (.int 2))) (mC (.int 0)))) (sRet (mCall c__law_by_digits (mCons (mBin dDiv (mVar 0) (mC (.int 2))) (mCons (mVar 1) (mCons (mVar 2) mNil))))) sNext) f__law_telling_4) := ⟨_, rfl⟩
noncomputable def f__law_telling  : MS := Classical.choose (f__law_telling_ex )
theorem f__law_telling_eq  : f__law_telling  = (sSeq (sIf (mTest (mBin dEq (mBin dMod (mVar 0) (mC (.int 2))) (mC (.int 0)))) (sRet (mCall c__law_by_digits (mCons (mBin dDiv (mVar 0) (mC (.int 2))) (mCons (mVar 1) (mCons (mVar 2) mNil))))) sNext) f__law_telling_4) := Classical.choose_spec (f__law_telling_ex )

theorem pure__law_telling : ∀ ds W P X, c__law_telling ds W P X → f__law_telling ⟨startA 6 ds, W⟩ (fEnds W P X) := by
  rintro ds W P X ⟨c, ks, ws, rfl, hk, hw, hkn, hwn, h⟩
  simp only [f__law_telling_eq]
  walk_at "tw"
  split
  · exact ⟨_, ks, ws, rfl, hk, hw, hkn, hwn, fun t h1 h2 h3 => .inl (h t h1 h2 h3)⟩
  · simp only [f__law_telling_4_eq]
    walk_at "tw"
    refine tum_ok ?_
    obtain ⟨key, hkey, ekey⟩ := pickD (enc := D.str) (l := ks) (Int.emod_nonneg (tumF c 24) (show (4 : Int) ≠ 0 by decide)) (by have := Int.emod_lt_of_pos (tumF c 24) (show (0 : Int) < 4 by decide); omega)
    obtain ⟨wo, hwo, ewo⟩ := pickD (enc := D.str) (l := ws) (Int.emod_nonneg (tumF c 26) (show (3 : Int) ≠ 0 by decide)) (by have := Int.emod_lt_of_pos (tumF c 26) (show (0 : Int) < 3 by decide); omega)
    have ok1 : isNameS key = true := hkn key hkey
    have ok2 : isNameS wo = true := hwn wo hwo
    walk_at "tw"
    rw [ekey]
    simp only [f__law_telling_3_eq]
    walk_at "tw"
    refine ⟨c, rfl, fun b e ok => ?_⟩
    have t1 := h ⟨key, none, b, e⟩ ⟨ok1, (fun _ z => nomatch z), ok⟩ hkey (fun _ z => nomatch z)
    have t2 := h ⟨key, some wo, b, e⟩ ⟨ok1, (fun w z => by cases z; exact ok2), ok⟩ hkey (fun w z => by cases z; exact hwo)
    walk_at "tw"
    simp only [f__law_telling_2_eq]
    walk_at "tw"
    refine tum_ok ?_
    walk_at "tw"
    split
    · exact .inl t1
    · simp only [f__law_telling_1_eq]
      walk_at "tw"
      refine tum_ok ?_
      walk_at "tw"
      rw [ewo]
      exact .inl t2

theorem abc_nth : ∀ r < 26, ("abcdefghijklmnopqrstuvwxyz" : Str).cps.toList[r]? = some (97 + r) := by decide +kernel
theorem abc_find : ∀ r < 26, Txt.find "abcdefghijklmnopqrstuvwxyz" (sgn (97 + r)) = (r : Int) := by decide +kernel
theorem abc_small : ∀ r < 26, isSmall (97 + r) = true := by decide +kernel
theorem abc_len : ("abcdefghijklmnopqrstuvwxyz" : Str).length = 26 := by decide +kernel
theorem ones_sum : ∀ cs : List Nat, ((cs.map sgn).map fun z => z.length).sum = cs.length
  | [] => rfl
  | a :: l => by
    have := ones_sum l
    simp only [List.map_cons, List.sum_cons, List.length_cons, this, sgn_len]
    omega
theorem snoc_cons_eq {l f : Nat} : ∀ {cs : List Nat}, cs ++ [l] = f :: cs → l = f
  | [], h => by simpa using h
  | c :: cs, h => by
    rw [List.cons_append] at h
    injection h with h1 h2
    rw [← h1]
    exact snoc_cons_eq h2
theorem words_nodup {cs : List Nat} {a l f m : Nat} (ha : a < cs.length) (hlf : l ≠ f) (hm : cs[a]? ≠ some m) {w0 w1 w2 w3 : Str} (e0 : w0.cps.toList = cs) (e1 : w1.cps.toList = cs ++ [l]) (e2 : w2.cps.toList = f :: cs) (e3 : w3.cps.toList = cs.set a m) : [w0, w1, w2, w3].Nodup := by
  have n1 : cs.length ≠ (cs ++ [l]).length := by simp
  have n2 : cs.length ≠ (f :: cs).length := by simp
  have d01 : w0 ≠ w1 := fun h => n1 (by rw [← e1, ← h, e0])
  have d02 : w0 ≠ w2 := fun h => n2 (by rw [← e2, ← h, e0])
  have d03 : w0 ≠ w3 := fun h => hm (by
    have : cs = cs.set a m := by rw [← e3, ← h, e0]
    rw [this, List.getElem?_set_self ha])
  have d12 : w1 ≠ w2 := fun h => hlf (snoc_cons_eq (cs := cs) (by rw [← e1, h, e2]))
  have d13 : w1 ≠ w3 := fun h => by
    have : (cs ++ [l]).length = (cs.set a m).length := by rw [← e1, h, e3]
    simp at this
  have d23 : w2 ≠ w3 := fun h => by
    have : (f :: cs).length = (cs.set a m).length := by rw [← e2, h, e3]
    simp at this
  simp only [List.nodup_cons, List.mem_cons, List.not_mem_nil, or_false, not_or, List.nodup_nil, not_false_eq_true, and_true]
  exact ⟨⟨d01, d02, d03⟩, ⟨d12, d13⟩, d23⟩
def c__law_words : FC := fun ds W P _ => ∃ c : Int, ds = [.int c] ∧ ∀ ks : List Str, ks.length = 4 → (∀ k ∈ ks, isNameS k = true) → ks.Nodup → P (.lst (ks.map D.str)) W
theorem len__law_words : ∀ ds W P X, c__law_words ds W P X → ds.length = 1 := by rintro ds W P X ⟨a, rfl, _⟩; rfl
theorem f__law_words_1_ex  : ∃ f : MS, f = (sRet (mLst false (mCons (mVar 2) (mCons (mBin (dAdd false) (mVar 2) (mVar 5)) (mCons (mBin (dAdd false) (mBin dIx (mVar 1) (mVar 4)) (mVar 2)) (mCons (mBin (dAdd false) (mBin (dAdd false) (mSl false (mVar 2) mNoPart (mPart (mVar 3))) (mVar 6)) (mSl false (mVar 2) (mPart (mBin (dAdd false) (mVar 3) (mC (.int 1)))) mNoPart)) mNil)))))) := ⟨_, rfl⟩
noncomputable def f__law_words_1  : MS := Classical.choose (f__law_words_1_ex )
theorem f__law_words_1_eq  : f__law_words_1  = (sRet (mLst false (mCons (mVar 2) (mCons (mBin (dAdd false) (mVar 2) (mVar 5)) (mCons (mBin (dAdd false) (mBin dIx (mVar 1) (mVar 4)) (mVar 2)) (mCons (mBin (dAdd false) (mBin (dAdd false) (mSl false (mVar 2) mNoPart (mPart (mVar 3))) (mVar 6)) (mSl false (mVar 2) (mPart (mBin (dAdd false) (mVar 3) (mC (.int 1)))) mNoPart)) mNil)))))) := Classical.choose_spec (f__law_words_1_ex )
theorem f__law_words_2_ex  : ∃ f : MS, f = (sSeq (sSet 6 (mBin dIx (mVar 1) (mBin dMod (mBin (dAdd false) (mBin (dAdd false) (mMt isStr gFind (mVar 1) (mCons (mBin dIx (mVar 2) (mVar 3)) mNil)) (mC (.int 1))) (mBin dMod (mCall c__law_tumbled (mCons (mVar 0) (mCons (mC (.int 11)) mNil))) (mC (.int 25)))) (mC (.int 26))))) f__law_words_1) := ⟨_, rfl⟩
noncomputable def f__law_words_2  : MS := Classical.choose (f__law_words_2_ex )
theorem f__law_words_2_eq  : f__law_words_2  = (sSeq (sSet 6 (mBin dIx (mVar 1) (mBin dMod (mBin (dAdd false) (mBin (dAdd false) (mMt isStr gFind (mVar 1) (mCons (mBin dIx (mVar 2) (mVar 3)) mNil)) (mC (.int 1))) (mBin dMod (mCall c__law_tumbled (mCons (mVar 0) (mCons (mC (.int 11)) mNil))) (mC (.int 25)))) (mC (.int 26))))) f__law_words_1) := Classical.choose_spec (f__law_words_2_ex )
theorem f__law_words_3_ex  : ∃ f : MS, f = (sSeq (sSet 5 (mBin dIx (mVar 1) (mBin dMod (mBin (dAdd false) (mBin (dAdd false) (mVar 4) (mC (.int 1))) (mBin dMod (mCall c__law_tumbled (mCons (mVar 0) (mCons (mC (.int 10)) mNil))) (mC (.int 25)))) (mC (.int 26))))) f__law_words_2) := ⟨_, rfl⟩
noncomputable def f__law_words_3  : MS := Classical.choose (f__law_words_3_ex )
theorem f__law_words_3_eq  : f__law_words_3  = (sSeq (sSet 5 (mBin dIx (mVar 1) (mBin dMod (mBin (dAdd false) (mBin (dAdd false) (mVar 4) (mC (.int 1))) (mBin dMod (mCall c__law_tumbled (mCons (mVar 0) (mCons (mC (.int 10)) mNil))) (mC (.int 25)))) (mC (.int 26))))) f__law_words_2) := Classical.choose_spec (f__law_words_3_ex )
theorem f__law_words_4_ex  : ∃ f : MS, f = (sSeq (sSet 4 (mBin dMod (mCall c__law_tumbled (mCons (mVar 0) (mCons (mC (.int 9)) mNil))) (mC (.int 26)))) f__law_words_3) := ⟨_, rfl⟩
noncomputable def f__law_words_4  : MS := Classical.choose (f__law_words_4_ex )
theorem f__law_words_4_eq  : f__law_words_4  = (sSeq (sSet 4 (mBin dMod (mCall c__law_tumbled (mCons (mVar 0) (mCons (mC (.int 9)) mNil))) (mC (.int 26)))) f__law_words_3) := Classical.choose_spec (f__law_words_4_ex )
theorem f__law_words_5_ex  : ∃ f : MS, f = (sSeq (sSet 3 (mBin dMod (mCall c__law_tumbled (mCons (mVar 0) (mCons (mC (.int 8)) mNil))) (M.bind (mCons (mVar 2) mNil) bLen))) f__law_words_4) := ⟨_, rfl⟩
noncomputable def f__law_words_5  : MS := Classical.choose (f__law_words_5_ex )
theorem f__law_words_5_eq  : f__law_words_5  = (sSeq (sSet 3 (mBin dMod (mCall c__law_tumbled (mCons (mVar 0) (mCons (mC (.int 8)) mNil))) (M.bind (mCons (mVar 2) mNil) bLen))) f__law_words_4) := Classical.choose_spec (f__law_words_5_ex )
theorem f__law_words_6_ex  : ∃ f : MS, f = (sSeq (sSet 2 (mMt isStr gJoin (mC (.str "")) (mCons (mLC true [7] (M.bind (mCons (mBin (dAdd false) (mC (.int 1)) (mBin dMod (mCall c__law_tumbled (mCons (mVar 0) (mCons (mC (.int 7)) mNil))) (mC (.int 7)))) mNil) bRange1) (gN 7) mYes (mBin dIx (mVar 1) (mBin dMod (mCall c__law_tumbled (mCons (mVar 0) (mCons (mVar 7) mNil))) (mC (.int 26))))) mNil))) f__law_words_5) := ⟨_, rfl⟩
noncomputable def f__law_words_6  : MS := Classical.choose (f__law_words_6_ex )
theorem f__law_words_6_eq  : f__law_words_6  = (sSeq (sSet 2 (mMt isStr gJoin (mC (.str "")) (mCons (mLC true [7] (M.bind (mCons (mBin (dAdd false) (mC (.int 1)) (mBin dMod (mCall c__law_tumbled (mCons (mVar 0) (mCons (mC (.int 7)) mNil))) (mC (.int 7)))) mNil) bRange1) (gN 7) mYes (mBin dIx (mVar 1) (mBin dMod (mCall c__law_tumbled (mCons (mVar 0) (mCons (mVar 7) mNil))) (mC (.int 26))))) mNil))) f__law_words_5) := Classical.choose_spec (f__law_words_6_ex )
theorem f__law_words_ex  : ∃ f : MS, f = (sSeq (sSet 1 (mC (.str "abcdefghijklmnopqrstuvwxyz"))) f__law_words_6) := ⟨_, rfl⟩
noncomputable def f__law_words  : MS := Classical.choose (f__law_words_ex )
theorem f__law_words_eq  : f__law_words  = (sSeq (sSet 1 (mC (.str "abcdefghijklmnopqrstuvwxyz"))) f__law_words_6) := Classical.choose_spec (f__law_words_ex )

theorem pure__law_words : ∀ ds W P X, c__law_words ds W P X → f__law_words ⟨startA 8 ds, W⟩ (fEnds W P X) := by
  rintro ds W P X ⟨c, rfl, h⟩
  have tn := tumF_nn c
  have tlt := tumF_lt c
  generalize hT : tumF c = T at tn tlt
  simp only [f__law_words_eq]
  generalize hL : Str.ofString "abcdefghijklmnopqrstuvwxyz" = L
  have Lnth : ∀ r < 26, L.cps.toList[r]? = some (97 + r) := hL ▸ abc_nth
  have Lfind : ∀ r < 26, Txt.find L (sgn (97 + r)) = (r : Int) := hL ▸ abc_find
  have Llen : L.length = 26 := hL ▸ abc_len
  clear hL
  walk_at "tw"
  simp only [f__law_words_6_eq]
  walk_at "tw"
  simp only [mLC]
  walk_at "tw"
  refine ⟨⟨_, rfl⟩, tum_ok ?_⟩
  rw [hT]
  walk_at "tw"
  obtain ⟨n0, hn0, hn⟩ : ∃ n : Nat, n ≤ 6 ∧ T 7 % 7 = n := ⟨(T 7 % 7).toNat, by have := Int.emod_lt_of_pos (T 7) (show (0 : Int) < 7 by decide); omega, by have := Int.emod_nonneg (T 7) (show (7 : Int) ≠ 0 by decide); omega⟩
  rw [hn, show (1 : Int) + (n0 : Int) = ((n0 + 1 : Nat) : Int) by omega, rngD0']
  refine ⟨by omega, by omega, ?_⟩
  refine lcL_ind (fun k : Nat => D.int k) (fun pre acc W' => ∃ cs : List Nat, W' = W ∧ acc = (cs.map sgn).map D.str ∧ cs.length = pre.length ∧ ∀ c ∈ cs, ∃ r < 26, c = 97 + r) (List.range (n0 + 1)) W rfl ⟨[], rfl, rfl, rfl, by simp⟩ (fun _ => trivial) (by simp; omega) ?_ ?_
  · rintro pre k post acc W' hall - ⟨cs, rfl, rfl, hcl, hcs⟩ N hN
    obtain ⟨rfl, hk⟩ := range_at hall
    simp only [lcTurn, wipeA]
    walk_at "tw"
    refine tum_ok ?_
    rw [hT]
    walk_at "tw"
    obtain ⟨r, hr, er⟩ : ∃ r : Nat, r < 26 ∧ T (pre.length : Nat) % 26 = r := ⟨(T (pre.length : Nat) % 26).toNat, by have := Int.emod_lt_of_pos (T (pre.length : Nat)) (show (0 : Int) < 26 by decide); omega, by have := Int.emod_nonneg (T (pre.length : Nat)) (show (26 : Int) ≠ 0 by decide); omega⟩
    rw [er, atI_nat0, Lnth r hr]
    refine ⟨sz_small (by rw [Llen]; decide), ?_⟩
    exact hN (some (.str (sgn (97 + r)))) _ rfl ⟨cs ++ [97 + r], rfl, by simp, by simp [hcl], fun c hc => by
      rcases List.mem_append.mp hc with q | q
      · exact hcs c q
      · exact ⟨r, hr, by simpa using q⟩⟩
  · rintro acc W' - hz ⟨cs, rfl, rfl, hcl, hcs⟩
    have hn1 : cs.length = n0 + 1 := by simpa using hcl
    have one : ∀ a ∈ cs.map sgn, a.length = 1 := fun a ha => by
      obtain ⟨c, _, rfl⟩ := List.mem_map.mp ha
      rfl
    refine lcFin_frz (bels_strs _ _) ?_
    refine ⟨cs.map sgn, rfl, ?_, ?_⟩
    · rw [ones_sum]
      have e0 : ("" : Str).length = 0 := rfl
      rw [e0]
      simp
      omega
    show f__law_words_5 _ _
    have hwl := join_sgn cs
    have hwn : (Txt.join "" (cs.map sgn)).length = n0 + 1 := by rw [← len_cps, hwl, hn1]
    generalize Txt.join "" (cs.map sgn) = w at hwl hwn ⊢
    simp only [f__law_words_5_eq]
    walk_at "tw"
    refine tum_ok ?_
    rw [hT]
    walk_at "tw"
    have pick : ∀ x : Int, ∃ r : Nat, r < 26 ∧ x % 26 = r ∧ atI L.cps.toList (r : Nat) = some (97 + r) := fun x => by
      have h1 := Int.emod_lt_of_pos x (show (0 : Int) < 26 by decide)
      have h2 := Int.emod_nonneg x (show (26 : Int) ≠ 0 by decide)
      exact ⟨(x % 26).toNat, by omega, by omega, by rw [atI_nat0]; exact Lnth _ (by omega)⟩
    have hz : L.length ≤ sizeLine := sz_small (by rw [Llen]; decide)
    obtain ⟨a, ha, ea⟩ : ∃ a : Nat, a < w.length ∧ T 8 % (w.length : Nat) = a := by
      have h1 := Int.emod_lt_of_pos (T 8) (show (0 : Int) < ((w.length : Nat) : Int) by omega)
      have h2 := Int.emod_nonneg (T 8) (show ((w.length : Nat) : Int) ≠ 0 by omega)
      exact ⟨(T 8 % (w.length : Nat)).toNat, by omega, by omega⟩
    rw [ea]
    refine ⟨sz_small (by omega), by omega, ?_⟩
    simp only [f__law_words_4_eq]
    walk_at "tw"
    refine tum_ok ?_
    rw [hT]
    walk_at "tw"
    obtain ⟨f, hf, ef, gf⟩ := pick (T 9)
    rw [ef]
    simp only [f__law_words_3_eq]
    walk_at "tw"
    refine tum_ok ?_
    rw [hT]
    walk_at "tw"
    obtain ⟨l, hl, el, gl⟩ := pick ((f : Nat) + 1 + T 10 % 25)
    rw [el, gl]
    refine ⟨hz, ?_⟩
    simp only [f__law_words_2_eq]
    walk_at "tw"
    obtain ⟨r, hr, er⟩ := hcs cs[a] (List.getElem_mem (by omega))
    have hwa : atI w.cps.toList (a : Nat) = some cs[a] := by rw [atI_nat0, hwl]; exact List.getElem?_eq_getElem (by omega)
    rw [hwa]
    refine ⟨⟨_, rfl⟩, ?_⟩
    simp only []
    refine ⟨sz_small (by omega), ?_⟩
    refine tum_ok ?_
    rw [hT]
    have hfd : Txt.find L ⟨#[cs[a]]⟩ = (r : Int) := by
      have := Lfind r hr
      rw [← er] at this
      exact this
    walk_at "tw"
    rw [hfd]
    obtain ⟨m, hm, em, gm⟩ := pick ((r : Nat) + 1 + T 11 % 25)
    rw [em, gm]
    refine ⟨hz, ?_⟩
    simp only [f__law_words_1_eq]
    walk_at "tw"
    have gf' : atI L.cps.toList (f : Nat) = some (97 + f) := gf
    simp only [gf']
    have hl1 : ∀ c : Nat, ({ cps := #[c] } : Str).length = 1 := fun _ => rfl
    have hc1 := cut_to_list w ((a : Nat) : Int) a rfl
    have hc2 := cut_from_list w (((a : Nat) : Int) + 1) (a + 1) (by omega)
    have hcut1 : (cutS w none (some ((a : Nat) : Int))).length ≤ 7 := by
      rw [← len_cps, hc1]
      simp
      omega
    have hcut2 : (cutS w (some (((a : Nat) : Int) + 1)) none).length ≤ 7 := by
      rw [← len_cps, hc2, List.length_drop, len_cps]
      omega
    have hcut3 : (cutS w none (some ((a : Nat) : Int)) ++ { cps := #[97 + m] }).length ≤ 8 := by
      rw [← len_cps, cps_add, List.length_append, len_cps]
      have : ({ cps := #[97 + m] } : Str).cps.toList.length = 1 := rfl
      rw [this]
      omega
    refine ⟨sz_small (by rw [hl1]; omega), hz, sz_small (by rw [hl1]; omega), sz_small (by omega), sz_small (by rw [hl1]; omega), sz_small (by omega), sz_small (by omega), ?_⟩
    have em := setS_made (z := w) (a := a) (c := 97 + m) ha (v := ((a : Nat) : Int)) (w := ((a : Nat) : Int) + 1) rfl rfl
    have em' : cutS w none (some ((a : Nat) : Int)) ++ { cps := #[97 + m] } ++ cutS w (some (((a : Nat) : Int) + 1)) none = setS w.cps.toList a (97 + m) := em
    rw [em']
    have hsm : ∀ x ∈ cs, isSmall x = true := fun x hx => by
      obtain ⟨r, hr, rfl⟩ := hcs x hx
      exact abc_small r hr
    refine Or.inl (h [w, w ++ { cps := #[97 + l] }, { cps := #[97 + f] } ++ w, setS w.cps.toList a (97 + m)] rfl ?_ ?_)
    · intro k hk
      simp only [List.mem_cons, List.not_mem_nil, or_false] at hk
      rcases hk with rfl | rfl | rfl | rfl
      · exact isNameS_of hwl (by omega) (by omega) (by simpa using hsm)
      · refine isNameS_of (l := cs ++ [97 + l]) (by rw [cps_add, hwl] <;> rfl) (by simp) (by simp; omega) ?_
        rw [List.all_append, Bool.and_eq_true]
        exact ⟨by simpa using hsm, by simp [abc_small l hl]⟩
      · refine isNameS_of (l := (97 + f) :: cs) (by rw [cps_add, hwl] <;> rfl) (by simp) (by simp; omega) ?_
        rw [List.all_cons, Bool.and_eq_true]
        exact ⟨abc_small f hf, by simpa using hsm⟩
      · refine isNameS_of (setS_list _ _ _) (by rw [List.length_set, hwl]; omega) (by rw [List.length_set, hwl]; omega) ?_
        rw [List.all_eq_true]
        intro x hx
        rcases List.mem_or_eq_of_mem_set hx with q | rfl
        · exact hsm x (by rw [← hwl]; exact q)
        · exact abc_small m hm
    · refine words_nodup (cs := cs) (a := a) (l := 97 + l) (f := 97 + f) (m := 97 + m) (by omega) ?_ ?_ hwl (by rw [cps_add, hwl] <;> rfl) (by rw [cps_add, hwl] <;> rfl) (by rw [setS_list, hwl])
      · intro e
        have h1 := Int.emod_nonneg (T 10) (show (25 : Int) ≠ 0 by decide)
        have h2 := Int.emod_lt_of_pos (T 10) (show (0 : Int) < 25 by decide)
        omega
      · rw [List.getElem?_eq_getElem (by omega), er]
        have h1 := Int.emod_nonneg (T 11) (show (25 : Int) ≠ 0 by decide)
        have h2 := Int.emod_lt_of_pos (T 11) (show (0 : Int) < 25 by decide)
        simp
        omega

abbrev c_law : FC := cLaw
theorem len_law : ∀ ds W P X, c_law ds W P X → ds.length = 1 := by rintro ds W P X ⟨ns, rfl, _⟩; rfl
theorem f_law_1_ex  : ∃ f : MS, f = (sExpr (mMeth "tell" T_tell_2 (mVar 3) (mCons (mCall c__law_telling (mCons (mVar 4) (mCons (mVar 1) (mCons (mVar 2) mNil)))) mNil))) := ⟨_, rfl⟩
noncomputable def f_law_1  : MS := Classical.choose (f_law_1_ex )
theorem f_law_1_eq  : f_law_1  = (sExpr (mMeth "tell" T_tell_2 (mVar 3) (mCons (mCall c__law_telling (mCons (mVar 4) (mCons (mVar 1) (mCons (mVar 2) mNil)))) mNil))) := Classical.choose_spec (f_law_1_ex )
theorem f_law_2_ex  : ∃ f : MS, f = (sIf (mTest (mBin dNe (mCall c__law_asked (mCons (mVar 3) (mCons (mVar 15) (mCons (mVar 11) (mCons (mVar 12) (mCons (mVar 13) (mCons (mVar 14) mNil))))))) (mCall c__law_due (mCons (mVar 15) (mCons (mVar 9) mNil))))) (sRet (mC (.bl false))) sNext) := ⟨_, rfl⟩
noncomputable def f_law_2  : MS := Classical.choose (f_law_2_ex )
theorem f_law_2_eq  : f_law_2  = (sIf (mTest (mBin dNe (mCall c__law_asked (mCons (mVar 3) (mCons (mVar 15) (mCons (mVar 11) (mCons (mVar 12) (mCons (mVar 13) (mCons (mVar 14) mNil))))))) (mCall c__law_due (mCons (mVar 15) (mCons (mVar 9) mNil))))) (sRet (mC (.bl false))) sNext) := Classical.choose_spec (f_law_2_ex )
theorem f_law_3_ex  : ∃ f : MS, f = (sSeq (sSet 15 (mBin dMod (mVar 7) (mC (.int 3)))) f_law_2) := ⟨_, rfl⟩
noncomputable def f_law_3  : MS := Classical.choose (f_law_3_ex )
theorem f_law_3_eq  : f_law_3  = (sSeq (sSet 15 (mBin dMod (mVar 7) (mC (.int 3)))) f_law_2) := Classical.choose_spec (f_law_3_ex )
theorem f_law_4_ex  : ∃ f : MS, f = (sSeq (sSet 14 (mBin dIx (mLst false (mCons (mBin dIx (mLst false (mCons (M.bind (mC (.int 1)) dNeg) (mCons (mBin (dAdd false) (mVar 5) (mC (.int 1))) (mCons (mBin dSub (M.bind (mC (.int 2)) dNeg) (mBin dIx (mVar 8) (mC (.int 5)))) (mCons (mBin (dAdd false) (mBin (dAdd false) (mVar 5) (mC (.int 2))) (mBin dIx (mVar 8) (mC (.int 5)))) mNil))))) (mBin dMod (mBin dIx (mVar 8) (mC (.int 4))) (mC (.int 4)))) (mCons (mBin dMod (mBin dIx (mVar 8) (mC (.int 5))) (mBin (dAdd false) (mVar 5) (mC (.int 1)))) mNil))) (M.bind (mCons (mBin dIx (mVar 9) (mC (.int 3))) mNil) bInt))) f_law_3) := ⟨_, rfl⟩
noncomputable def f_law_4  : MS := Classical.choose (f_law_4_ex )
theorem f_law_4_eq  : f_law_4  = (sSeq (sSet 14 (mBin dIx (mLst false (mCons (mBin dIx (mLst false (mCons (M.bind (mC (.int 1)) dNeg) (mCons (mBin (dAdd false) (mVar 5) (mC (.int 1))) (mCons (mBin dSub (M.bind (mC (.int 2)) dNeg) (mBin dIx (mVar 8) (mC (.int 5)))) (mCons (mBin (dAdd false) (mBin (dAdd false) (mVar 5) (mC (.int 2))) (mBin dIx (mVar 8) (mC (.int 5)))) mNil))))) (mBin dMod (mBin dIx (mVar 8) (mC (.int 4))) (mC (.int 4)))) (mCons (mBin dMod (mBin dIx (mVar 8) (mC (.int 5))) (mBin (dAdd false) (mVar 5) (mC (.int 1)))) mNil))) (M.bind (mCons (mBin dIx (mVar 9) (mC (.int 3))) mNil) bInt))) f_law_3) := Classical.choose_spec (f_law_4_ex )
theorem f_law_5_ex  : ∃ f : MS, f = (sSeq (sSet 13 (mBin dIx (mLst false (mCons (mBin dIx (mLst false (mCons (M.bind (mC (.int 1)) dNeg) (mCons (mBin (dAdd false) (mBin dPow (mC (.int 10)) (mC (.int 12))) (mC (.int 1))) (mCons (mBin dSub (M.bind (mC (.int 2)) dNeg) (mBin dIx (mVar 8) (mC (.int 4)))) (mCons (mBin (dAdd false) (mBin (dAdd false) (mBin dPow (mC (.int 10)) (mC (.int 12))) (mC (.int 2))) (mBin dIx (mVar 8) (mC (.int 4)))) mNil))))) (mBin dMod (mBin dIx (mVar 8) (mC (.int 5))) (mC (.int 4)))) (mCons (mBin dMod (mBin dIx (mVar 8) (mC (.int 4))) (mC (.int 20))) mNil))) (M.bind (mCons (mBin dIx (mVar 9) (mC (.int 2))) mNil) bInt))) f_law_4) := ⟨_, rfl⟩
noncomputable def f_law_5  : MS := Classical.choose (f_law_5_ex )
theorem f_law_5_eq  : f_law_5  = (sSeq (sSet 13 (mBin dIx (mLst false (mCons (mBin dIx (mLst false (mCons (M.bind (mC (.int 1)) dNeg) (mCons (mBin (dAdd false) (mBin dPow (mC (.int 10)) (mC (.int 12))) (mC (.int 1))) (mCons (mBin dSub (M.bind (mC (.int 2)) dNeg) (mBin dIx (mVar 8) (mC (.int 4)))) (mCons (mBin (dAdd false) (mBin (dAdd false) (mBin dPow (mC (.int 10)) (mC (.int 12))) (mC (.int 2))) (mBin dIx (mVar 8) (mC (.int 4)))) mNil))))) (mBin dMod (mBin dIx (mVar 8) (mC (.int 5))) (mC (.int 4)))) (mCons (mBin dMod (mBin dIx (mVar 8) (mC (.int 4))) (mC (.int 20))) mNil))) (M.bind (mCons (mBin dIx (mVar 9) (mC (.int 2))) mNil) bInt))) f_law_4) := Classical.choose_spec (f_law_5_ex )
theorem f_law_6_ex  : ∃ f : MS, f = (sSeq (sSet 12 (mBin dIx (mLst false (mCons (mBin dIx (mVar 10) (mBin dMod (mBin dIx (mVar 8) (mC (.int 5))) (mC (.int 6)))) (mCons (mBin dIx (mVar 2) (mBin dMod (mBin dIx (mVar 8) (mC (.int 5))) (mC (.int 4)))) mNil))) (M.bind (mCons (mBin dIx (mVar 9) (mC (.int 1))) mNil) bInt))) f_law_5) := ⟨_, rfl⟩
noncomputable def f_law_6  : MS := Classical.choose (f_law_6_ex )
theorem f_law_6_eq  : f_law_6  = (sSeq (sSet 12 (mBin dIx (mLst false (mCons (mBin dIx (mVar 10) (mBin dMod (mBin dIx (mVar 8) (mC (.int 5))) (mC (.int 6)))) (mCons (mBin dIx (mVar 2) (mBin dMod (mBin dIx (mVar 8) (mC (.int 5))) (mC (.int 4)))) mNil))) (M.bind (mCons (mBin dIx (mVar 9) (mC (.int 1))) mNil) bInt))) f_law_5) := Classical.choose_spec (f_law_6_ex )
theorem f_law_7_ex  : ∃ f : MS, f = (sSeq (sSet 11 (mBin dIx (mLst false (mCons (mBin dIx (mVar 10) (mBin dMod (mBin dIx (mVar 8) (mC (.int 4))) (mC (.int 6)))) (mCons (mBin dIx (mVar 1) (mBin dMod (mBin dIx (mVar 8) (mC (.int 4))) (mC (.int 4)))) mNil))) (M.bind (mCons (mBin dIx (mVar 9) (mC (.int 0))) mNil) bInt))) f_law_6) := ⟨_, rfl⟩
noncomputable def f_law_7  : MS := Classical.choose (f_law_7_ex )
theorem f_law_7_eq  : f_law_7  = (sSeq (sSet 11 (mBin dIx (mLst false (mCons (mBin dIx (mVar 10) (mBin dMod (mBin dIx (mVar 8) (mC (.int 4))) (mC (.int 6)))) (mCons (mBin dIx (mVar 1) (mBin dMod (mBin dIx (mVar 8) (mC (.int 4))) (mC (.int 4)))) mNil))) (M.bind (mCons (mBin dIx (mVar 9) (mC (.int 0))) mNil) bInt))) f_law_6) := Classical.choose_spec (f_law_7_ex )
theorem f_law_8_ex  : ∃ f : MS, f = (sSeq (sSet 10 (mLst false (mCons (mC (.str "")) (mCons (mC (.str " ")) (mCons (mBin (dAdd false) (mBin dIx (mVar 1) (mC (.int 0))) (mC (.str " "))) (mCons (mBin (dAdd false) (mC (.str "A")) (mSl false (mBin dIx (mVar 2) (mC (.int 0))) (mPart (mC (.int 1))) mNoPart)) (mCons (mC (.str "abcdefghi")) (mCons (mC (.str "a1")) mNil)))))))) f_law_7) := ⟨_, rfl⟩
noncomputable def f_law_8  : MS := Classical.choose (f_law_8_ex )
theorem f_law_8_eq  : f_law_8  = (sSeq (sSet 10 (mLst false (mCons (mC (.str "")) (mCons (mC (.str " ")) (mCons (mBin (dAdd false) (mBin dIx (mVar 1) (mC (.int 0))) (mC (.str " "))) (mCons (mBin (dAdd false) (mC (.str "A")) (mSl false (mBin dIx (mVar 2) (mC (.int 0))) (mPart (mC (.int 1))) mNoPart)) (mCons (mC (.str "abcdefghi")) (mCons (mC (.str "a1")) mNil)))))))) f_law_7) := Classical.choose_spec (f_law_8_ex )
theorem f_law_9_ex  : ∃ f : MS, f = (sSeq (sSet 9 (mLC true [17] (M.bind (mCons (mC (.int 4)) mNil) bRange1) (gN 17) mYes (mBin dGt (mBin dMod (mBin dIx (mVar 8) (mVar 17)) (mC (.int 3))) (mC (.int 0))))) f_law_8) := ⟨_, rfl⟩
noncomputable def f_law_9  : MS := Classical.choose (f_law_9_ex )
theorem f_law_9_eq  : f_law_9  = (sSeq (sSet 9 (mLC true [17] (M.bind (mCons (mC (.int 4)) mNil) bRange1) (gN 17) mYes (mBin dGt (mBin dMod (mBin dIx (mVar 8) (mVar 17)) (mC (.int 3))) (mC (.int 0))))) f_law_8) := Classical.choose_spec (f_law_9_ex )
theorem f_law_10_ex  : ∃ f : MS, f = (sSeq (sSet 8 (mLC true [17] (M.bind (mCons (mC (.int 6)) mNil) bRange1) (gN 17) mYes (mCall c__law_tumbled (mCons (mCall c__law_cell_at (mCons (mVar 0) (mCons (mC (.int 2)) mNil))) (mCons (mBin (dAdd false) (mBin (dAdd false) (mC (.int 30)) (mBin dMul (mC (.int 6)) (mVar 7))) (mVar 17)) mNil))))) f_law_9) := ⟨_, rfl⟩
noncomputable def f_law_10  : MS := Classical.choose (f_law_10_ex )
theorem f_law_10_eq  : f_law_10  = (sSeq (sSet 8 (mLC true [17] (M.bind (mCons (mC (.int 6)) mNil) bRange1) (gN 17) mYes (mCall c__law_tumbled (mCons (mCall c__law_cell_at (mCons (mVar 0) (mCons (mC (.int 2)) mNil))) (mCons (mBin (dAdd false) (mBin (dAdd false) (mC (.int 30)) (mBin dMul (mC (.int 6)) (mVar 7))) (mVar 17)) mNil))))) f_law_9) := Classical.choose_spec (f_law_10_ex )
theorem f_law_11_ex  : ∃ f : MS, f = (sRet (mBin dEq (mLC true [11] (M.bind (mVar 1) bIter) (gN 11) mYes (mMeth "line_at" T_line_at_3 (mVar 3) (mCons (mVar 11) (mCons (mVar 5) mNil)))) (mVar 6))) := ⟨_, rfl⟩
noncomputable def f_law_11  : MS := Classical.choose (f_law_11_ex )
theorem f_law_11_eq  : f_law_11  = (sRet (mBin dEq (mLC true [11] (M.bind (mVar 1) bIter) (gN 11) mYes (mMeth "line_at" T_line_at_3 (mVar 3) (mCons (mVar 11) (mCons (mVar 5) mNil)))) (mVar 6))) := Classical.choose_spec (f_law_11_ex )
theorem f_law_12_ex  : ∃ f : MS, f = (sSeq (sIf (mOr (mTest (mBin dNe (mMeth "knowings" T_knowings_1 (mVar 3) mNil) (mVar 5))) (mTest (mBin dNe (mMeth "keys_at" T_keys_at_2 (mVar 3) (mCons (mVar 5) mNil)) (mVar 16)))) (sRet (mC (.bl false))) sNext) f_law_11) := ⟨_, rfl⟩
noncomputable def f_law_12  : MS := Classical.choose (f_law_12_ex )
theorem f_law_12_eq  : f_law_12  = (sSeq (sIf (mOr (mTest (mBin dNe (mMeth "knowings" T_knowings_1 (mVar 3) mNil) (mVar 5))) (mTest (mBin dNe (mMeth "keys_at" T_keys_at_2 (mVar 3) (mCons (mVar 5) mNil)) (mVar 16)))) (sRet (mC (.bl false))) sNext) f_law_11) := Classical.choose_spec (f_law_12_ex )
theorem f_law_13_ex  : ∃ f : MS, f = (sSeq (sSet 16 (M.bind (mCons (mLC true [7] (M.bind (mCons (mC (.int 4)) mNil) bRange1) (gN 7) (mTest (mBin dNe (mBin dIx (mVar 6) (mVar 7)) (mLst false mNil))) (mBin dIx (mVar 1) (mVar 7))) mNil) (bSortA false))) f_law_12) := ⟨_, rfl⟩
noncomputable def f_law_13  : MS := Classical.choose (f_law_13_ex )
theorem f_law_13_eq  : f_law_13  = (sSeq (sSet 16 (M.bind (mCons (mLC true [7] (M.bind (mCons (mC (.int 4)) mNil) bRange1) (gN 7) (mTest (mBin dNe (mBin dIx (mVar 6) (mVar 7)) (mLst false mNil))) (mBin dIx (mVar 1) (mVar 7))) mNil) (bSortA false))) f_law_12) := Classical.choose_spec (f_law_13_ex )
theorem f_law_14_ex  : ∃ f : MS, f = (sSeq (sFor (M.bind (mCons (mC (.int 40)) mNil) bRange1) (gN 7) f_law_10) f_law_13) := ⟨_, rfl⟩
noncomputable def f_law_14  : MS := Classical.choose (f_law_14_ex )
theorem f_law_14_eq  : f_law_14  = (sSeq (sFor (M.bind (mCons (mC (.int 40)) mNil) bRange1) (gN 7) f_law_10) f_law_13) := Classical.choose_spec (f_law_14_ex )
theorem f_law_15_ex  : ∃ f : MS, f = (sSeq (sSet 6 (mLC true [11] (M.bind (mVar 1) bIter) (gN 11) mYes (mMeth "line_at" T_line_at_3 (mVar 3) (mCons (mVar 11) (mCons (mVar 5) mNil))))) f_law_14) := ⟨_, rfl⟩
noncomputable def f_law_15  : MS := Classical.choose (f_law_15_ex )
theorem f_law_15_eq  : f_law_15  = (sSeq (sSet 6 (mLC true [11] (M.bind (mVar 1) bIter) (gN 11) mYes (mMeth "line_at" T_line_at_3 (mVar 3) (mCons (mVar 11) (mCons (mVar 5) mNil))))) f_law_14) := Classical.choose_spec (f_law_15_ex )
theorem f_law_16_ex  : ∃ f : MS, f = (sSeq (sSet 5 (mMeth "knowings" T_knowings_1 (mVar 3) mNil)) f_law_15) := ⟨_, rfl⟩
noncomputable def f_law_16  : MS := Classical.choose (f_law_16_ex )
theorem f_law_16_eq  : f_law_16  = (sSeq (sSet 5 (mMeth "knowings" T_knowings_1 (mVar 3) mNil)) f_law_15) := Classical.choose_spec (f_law_16_ex )
theorem f_law_17_ex  : ∃ f : MS, f = (sSeq (sFor (M.bind (mSl false (mVar 0) (mPart (mC (.int 3))) (mPart (mC (.int 123)))) bIter) (gN 4) f_law_1) f_law_16) := ⟨_, rfl⟩
noncomputable def f_law_17  : MS := Classical.choose (f_law_17_ex )
theorem f_law_17_eq  : f_law_17  = (sSeq (sFor (M.bind (mSl false (mVar 0) (mPart (mC (.int 3))) (mPart (mC (.int 123)))) bIter) (gN 4) f_law_1) f_law_16) := Classical.choose_spec (f_law_17_ex )
theorem f_law_18_ex  : ∃ f : MS, f = (sSeq (sSet 3 (mMake "Sheet" c_Sheet___init__ mNil)) f_law_17) := ⟨_, rfl⟩
noncomputable def f_law_18  : MS := Classical.choose (f_law_18_ex )
theorem f_law_18_eq  : f_law_18  = (sSeq (sSet 3 (mMake "Sheet" c_Sheet___init__ mNil)) f_law_17) := Classical.choose_spec (f_law_18_ex )
theorem f_law_19_ex  : ∃ f : MS, f = (sSeq (sSet 2 (mCall c__law_words (mCons (mCall c__law_cell_at (mCons (mVar 0) (mCons (mC (.int 1)) mNil))) mNil))) f_law_18) := ⟨_, rfl⟩
noncomputable def f_law_19  : MS := Classical.choose (f_law_19_ex )
theorem f_law_19_eq  : f_law_19  = (sSeq (sSet 2 (mCall c__law_words (mCons (mCall c__law_cell_at (mCons (mVar 0) (mCons (mC (.int 1)) mNil))) mNil))) f_law_18) := Classical.choose_spec (f_law_19_ex )
theorem f_law_ex  : ∃ f : MS, f = (sSeq (sSet 1 (mCall c__law_words (mCons (mCall c__law_cell_at (mCons (mVar 0) (mCons (mC (.int 0)) mNil))) mNil))) f_law_19) := ⟨_, rfl⟩
noncomputable def f_law  : MS := Classical.choose (f_law_ex )
theorem f_law_eq  : f_law  = (sSeq (sSet 1 (mCall c__law_words (mCons (mCall c__law_cell_at (mCons (mVar 0) (mCons (mC (.int 0)) mNil))) mNil))) f_law_19) := Classical.choose_spec (f_law_ex )

theorem pure_law : ∀ ds W P X, c_law ds W P X → f_law ⟨startA 18 ds, W⟩ (fEnds W P X) := by
  rintro ds W P X ⟨ns, rfl, rfl, hns, h⟩
  simp only [f_law_eq]
  walk_at "tw"
  refine cellAt_ok (k := 0) ?_
  generalize cellAt ns 0 = c0
  refine ⟨_, rfl, fun ks kl kn kd => ?_⟩
  simp only [f_law_19_eq]
  walk_at "tw"
  refine cellAt_ok (k := 1) ?_
  generalize cellAt ns 1 = c1
  refine ⟨_, rfl, fun ws wl wn wd => ?_⟩
  simp only [f_law_18_eq]
  walk_at "tw"
  refine ⟨0, "Sheet", rfl, rfl, by decide, ?_⟩
  walk_at "tw"
  simp only [f_law_17_eq]
  walk_at "tw"
  rw [cutD_ft _ 3 123 3 123 rfl rfl (by decide), ← List.map_drop, ← List.map_take]
  have hcells : ((ns.drop 3).take (123 - 3)).length ≤ 120 := by simp; omega
  generalize (ns.drop 3).take (123 - 3) = cells at hcells ⊢
  refine loop_ind D.int (fun pre S => ∃ s4 s5 s6 s7 s8 s9 s10 s11 s12 s13 s14 s15 s16 s17 W ts fp, S = ⟨[some (.sq (ns.map D.int)), some (.lst (ks.map D.str)), some (.lst (ws.map D.str)), some (.hnd 0), s4, s5, s6, s7, s8, s9, s10, s11, s12, s13, s14, s15, s16, s17], W⟩ ∧ Sh "Sheet" W fp 0 ts ts 0 ∧ ts.length ≤ pre.length ∧ ∀ t ∈ ts, t.key ∈ ks) cells
    ⟨none, none, none, none, none, none, none, none, none, none, none, none, none, none, _, [], [0, 1, 2], rfl, Sh.new [], by simp, by simp⟩ (fun _ _ _ => trivial) ?_ ?_
  · rintro pre x post S hall ⟨s4, s5, s6, s7, s8, s9, s10, s11, s12, s13, s14, s15, s16, s17, W, ts, fp, rfl, sh, lt, hin⟩ N hN
    have hpre : pre.length < 120 := by rw [hall] at hcells; simp at hcells; omega
    simp only [f_law_1_eq]
    walk_at "tw"
    refine sh.meth List.mem_cons_self (by decide) ?_
    walk_at "tw"
    refine ⟨x, ks, ws, rfl, by omega, by omega, kn, wn, fun t ok tk _ => ?_⟩
    refine ⟨sh.isA, "Sheet", 0, fp, ts, 0, sh, by omega, .inl ⟨t, rfl, ok, fun W2 fp2 s2 fr sub => ?_⟩⟩
    exact hN _ ⟨_, _, _, _, _, _, _, _, _, _, _, _, _, _, W2, ts ++ [t], fp2, rfl, s2, by simp; omega, fun q hq => by
      rcases List.mem_append.mp hq with z | z
      · exact hin q z
      · simp at z; subst z; exact tk⟩
  · rintro S ⟨s4, s5, s6, s7, s8, s9, s10, s11, s12, s13, s14, s15, s16, s17, W, ts, fp, rfl, sh, lt, hin⟩
    have hz : ts.length ≤ 120 := by omega
    simp only [f_law_16_eq]
    walk_at "tw"
    refine sh.meth List.mem_cons_self (by decide) ?_
    walk_at "tw"
    refine ⟨sh.isA, "Sheet", 0, fp, ts, 0, rfl, sh, ?_⟩
    simp only [f_law_15_eq]
    walk_at "tw"
    simp only [mLC]
    walk_at "tw"
    refine lcL_tot D.str (fun key => D.lst ((lineOf ts key).map rowD)) (fun key hkey acc N q => ?_) (fun _ => trivial) (by omega) ?_
    · simp only [lcTurn, wipeA]
      walk_at "tw"
      have sq := sh.grow [O.lst acc]
      refine sq.meth List.mem_cons_self (by decide) ?_
      walk_at "tw"
      refine ⟨sq.isA, sq.ask_line (kn key hkey) (Nat.zero_le _) (Nat.le_refl _) (.inl ?_)⟩
      rw [List.take_length]
      exact q
    refine lcFin_frz (bels_of fun p _ => bel_rows _ _) ?_
    walk_at "tw"
    simp only [f_law_14_eq]
    walk_at "tw"
    rw [show Int.toNat 40 = 40 from rfl, rngD0]
    refine ⟨by decide, by decide, ?_⟩
    refine loop_ind (fun i : Nat => D.int i) (fun pr S => ∃ s7 s8 s9 s10 s11 s12 s13 s14 s15 s16 s17, S = ⟨[some (.sq (ns.map D.int)), some (.lst (ks.map D.str)), some (.lst (ws.map D.str)), some (.hnd 0), s4, some (.int ts.length), some (.lst (ks.map fun key => D.lst ((lineOf ts key).map rowD))), s7, s8, s9, s10, s11, s12, s13, s14, s15, s16, s17], W⟩) (List.range 40) ⟨_, _, _, _, _, _, _, _, _, _, _, rfl⟩ (fun _ _ _ => trivial) ?_ ?_
    · rintro pr i po S hall ⟨s7, s8, s9, s10, s11, s12, s13, s14, s15, s16, s17, rfl⟩ N hN
      obtain ⟨rfl, hi⟩ := range_at hall
      have q0 := List.length_range (n := 40)
      have hN := fun s7 s8 s9 s10 s11 s12 s13 s14 s15 s16 s17 => hN _ ⟨s7, s8, s9, s10, s11, s12, s13, s14, s15, s16, s17, rfl⟩
      have hi40 : pr.length < 40 := by omega
      generalize pr.length = i at hi40 ⊢
      clear hall hi q0
      simp only [f_law_10_eq]
      walk_at "tw"
      simp only [mLC]
      walk_at "tw"
      rw [show Int.toNat 6 = 6 from rfl, rngD0]
      refine ⟨by decide, by decide, ?_⟩
      obtain ⟨c2, hc2⟩ : ∃ c2, cellAt ns 2 = c2 := ⟨_, rfl⟩
      refine lcL_tot (fun k : Nat => D.int k) (fun k => D.int (tumF c2 (30 + 6 * i + k))) (fun k hk acc N q => ?_) (fun _ => trivial) (by simp) ?_
      · simp only [lcTurn, wipeA]
        walk_at "tw"
        refine cellAt_ok (k := 2) ?_
        rw [hc2]
        have := List.mem_range.mp hk
        refine ⟨.inl (by omega), ?_⟩
        exact tum_ok q
      refine lcFin_frz (bels_of fun p _ => rfl) ?_
      have nn : ∀ k, 0 ≤ tumF c2 k ∧ tumF c2 k < 1000000007 := fun k => ⟨tumF_nn c2 k, tumF_lt c2 k⟩
      clear hc2
      simp only [List.range_succ, List.range_zero, List.nil_append, List.cons_append, List.map_cons, List.map_nil]
      have n0 := nn (30 + 6 * i + ((0 : Nat) : Int))
      have n1 := nn (30 + 6 * i + ((1 : Nat) : Int))
      have n2 := nn (30 + 6 * i + ((2 : Nat) : Int))
      have n3 := nn (30 + 6 * i + ((3 : Nat) : Int))
      have n4 := nn (30 + 6 * i + ((4 : Nat) : Int))
      have n5 := nn (30 + 6 * i + ((5 : Nat) : Int))
      generalize tumF c2 (30 + 6 * i + ((0 : Nat) : Int)) = x0 at n0 ⊢
      generalize tumF c2 (30 + 6 * i + ((1 : Nat) : Int)) = x1 at n1 ⊢
      generalize tumF c2 (30 + 6 * i + ((2 : Nat) : Int)) = x2 at n2 ⊢
      generalize tumF c2 (30 + 6 * i + ((3 : Nat) : Int)) = x3 at n3 ⊢
      generalize tumF c2 (30 + 6 * i + ((4 : Nat) : Int)) = x4 at n4 ⊢
      generalize tumF c2 (30 + 6 * i + ((5 : Nat) : Int)) = x5 at n5 ⊢
      clear nn
      walk_at "tw"
      simp only [f_law_9_eq]
      walk_at "tw"
      simp only [mLC]
      walk_at "tw"
      rw [show Int.toNat 4 = 4 from rfl, rngD0]
      refine ⟨by decide, by decide, ?_⟩
      refine lcL_tot (fun k : Nat => D.int k) (fun k => match k with
        | 0 => D.bl (decide (x0 % 3 > 0))
        | 1 => D.bl (decide (x1 % 3 > 0))
        | 2 => D.bl (decide (x2 % 3 > 0))
        | _ => D.bl (decide (x3 % 3 > 0))) (fun k hk acc N q => ?_) (fun _ => trivial) (by simp) ?_
      · simp only [lcTurn, wipeA]
        have hk := List.mem_range.mp hk
        rcases (by omega : k = 0 ∨ k = 1 ∨ k = 2 ∨ k = 3) with rfl | rfl | rfl | rfl <;> (walk_at "tw"; exact q)
      refine lcFin_frz (bels_of fun p hp => ?_) ?_
      · have hk := List.mem_range.mp hp
        rcases (by omega : p = 0 ∨ p = 1 ∨ p = 2 ∨ p = 3) with rfl | rfl | rfl | rfl <;> rfl
      simp only [List.range_succ, List.range_zero, List.nil_append, List.cons_append, List.map_cons, List.map_nil]
      generalize decide (x0 % 3 > 0) = g0
      generalize decide (x1 % 3 > 0) = g1
      generalize decide (x2 % 3 > 0) = g2
      generalize decide (x3 % 3 > 0) = g3
      walk_at "tw"
      simp only [f_law_8_eq]
      walk_at "tw"
      have fourth : ∀ l : List Str, l.length = 4 → ∃ a b c d, l = [a, b, c, d] := fun l hl => by
        match l, hl with
        | [a, b, c, d], _ => exact ⟨a, b, c, d, rfl⟩
      obtain ⟨k0, k1, k2, k3, ek⟩ := fourth ks kl
      obtain ⟨v0, v1, v2, v3, ew⟩ := fourth ws wl
      have nk := fun k hk => isNameS_list (kn k hk)
      have nw := fun k hk => isNameS_list (wn k hk)
      have ik0 : (ks.map D.str)[0]? = some (.str k0) := by rw [ek]; rfl
      have iw0 : (ws.map D.str)[0]? = some (.str v0) := by rw [ew]; rfl
      simp only [ik0]
      walk_at "tw"
      simp only [iw0]
      walk_at "tw"
      have zk0 : k0.length ≤ 8 := by have := (nk k0 (by rw [ek]; simp)).2.1; rwa [len_cps] at this
      have zv0 : v0.length ≤ 8 := by have := (nw v0 (by rw [ew]; simp)).2.1; rwa [len_cps] at this
      have zc := len_cut v0 (some 1) none
      refine ⟨sz_small (by show k0.length + 1 ≤ _; omega), sz_small (by omega), sz_small (by show 1 + (cutS v0 (some 1) none).length ≤ _; omega), ?_⟩
      have low_out : ∀ {s : Str} {x : Nat}, x ∈ s.cps.toList → isSmall x = false → isNameS s = false := fun {s x} hm hx => by
        cases q : isNameS s with
        | false => rfl
        | true =>
          have := (isNameS_list q).2.2
          rw [List.all_eq_true] at this
          rw [this x hm] at hx
          exact hx
      have odd : ∀ x : Int, ∃ z : Str, atI [D.str (Str.ofString ""), D.str (Str.ofString " "), D.str (k0 ++ Str.ofString " "), D.str (Str.ofString "A" ++ cutS v0 (some 1) none), D.str (Str.ofString "abcdefghi"), D.str (Str.ofString "a1")] (x % 6) = some (.str z) ∧ isNameS z = false ∧ z.length ≤ 100 := fun x => by
        have q1 := Int.emod_nonneg x (show (6 : Int) ≠ 0 by decide)
        have q2 := Int.emod_lt_of_pos x (show (0 : Int) < 6 by decide)
        generalize x % 6 = r at q1 q2 ⊢
        rcases (by omega : r = 0 ∨ r = 1 ∨ r = 2 ∨ r = 3 ∨ r = 4 ∨ r = 5) with rfl | rfl | rfl | rfl | rfl | rfl
        · exact ⟨_, rfl, by decide +kernel, by decide +kernel⟩
        · exact ⟨_, rfl, by decide +kernel, by decide +kernel⟩
        · exact ⟨_, rfl, low_out (x := 32) (by rw [cps_add]; exact List.mem_append.mpr (.inr (by decide +kernel))) (by decide), by rw [len_add]; show k0.length + 1 ≤ _; omega⟩
        · exact ⟨_, rfl, low_out (x := 65) (by rw [cps_add]; exact List.mem_append.mpr (.inl (by decide +kernel))) (by decide), by rw [len_add]; show 1 + (cutS v0 (some 1) none).length ≤ _; omega⟩
        · exact ⟨_, rfl, by decide +kernel, by decide +kernel⟩
        · exact ⟨_, rfl, by decide +kernel, by decide +kernel⟩
      have pickK : ∀ (l : List Str), l.length = 4 → (∀ k ∈ l, isNameS k = true) → ∀ x : Int, ∃ z : Str, atI (l.map D.str) (x % 4) = some (.str z) ∧ isNameS z = true := fun l hl hn x => by
        obtain ⟨z, hz, e⟩ := pickD (enc := D.str) (l := l) (Int.emod_nonneg x (show (4 : Int) ≠ 0 by decide)) (by have := Int.emod_lt_of_pos x (show (0 : Int) < 4 by decide); omega)
        exact ⟨z, e, hn z hz⟩
      have one : ∀ (g : Bool) (a b : Str), isNameS a = false → isNameS b = true → a.length ≤ 100 → ∃ d : D, atI [D.str a, D.str b] (if g = true then 1 else 0) = some d ∧ plainD d = true ∧ isNm d = g := fun g a b ha hb za => by
        cases g with
        | false => exact ⟨_, rfl, by simp [plainD]; omega, ha⟩
        | true => exact ⟨_, rfl, plain_name hb, hb⟩
      obtain ⟨o4, eo4, no4, zo4⟩ := odd x4
      obtain ⟨o5, eo5, no5, zo5⟩ := odd x5
      obtain ⟨k4, ek4, nk4⟩ := pickK ks kl kn x4
      obtain ⟨w5, ew5, nw5⟩ := pickK ws wl wn x5
      obtain ⟨kd', ekd, pkd, gkd⟩ := one g0 o4 k4 no4 nk4 zo4
      obtain ⟨wd', ewd, pwd, gwd⟩ := one g1 o5 w5 no5 nw5 zo5
      simp only [f_law_7_eq]
      walk_at "tw"
      simp only [eo4, ek4]
      simp only [ekd]
      simp only [f_law_6_eq]
      walk_at "tw"
      simp only [eo5, ew5]
      simp only [ewd]
      have pickI4 : ∀ (a b c d x : Int), ∃ v, atI [D.int a, D.int b, D.int c, D.int d] (x % 4) = some (.int v) ∧ (v = a ∨ v = b ∨ v = c ∨ v = d) := fun a b c d x => by
        obtain ⟨v, hv, e⟩ := pickI (l := [a, b, c, d]) (mod4 x).1 (mod4 x).2
        exact ⟨v, e, by simpa using hv⟩
      obtain ⟨mb, emb, hmb⟩ := pickI4 (-1) 1000000000001 (-2 - x4) (1000000000002 + x4) x5
      obtain ⟨kb, ekb, hkb⟩ := pickI4 (-1) ((ts.length : Int) + 1) (-2 - x5) ((ts.length : Int) + 2 + x5) x4
      have m20 := Int.emod_nonneg x4 (show (20 : Int) ≠ 0 by decide)
      have m21 := Int.emod_lt_of_pos x4 (show (0 : Int) < 20 by decide)
      have l20 := Int.emod_nonneg x5 (show (ts.length : Int) + 1 ≠ 0 by omega)
      have l21 := Int.emod_lt_of_pos x5 (show (0 : Int) < (ts.length : Int) + 1 by omega)
      obtain ⟨md, emd, gmd⟩ : ∃ md : Int, atI [D.int mb, D.int (x4 % 20)] (if g2 = true then 1 else 0) = some (.int md) ∧ isMo (.int md) = g2 := by
        cases g2 with
        | false => exact ⟨_, rfl, by simp only [isMo, Bool.and_eq_false_iff, decide_eq_false_iff_not]; omega⟩
        | true => exact ⟨_, rfl, by simp only [isMo, Bool.and_eq_true, decide_eq_true_eq]; omega⟩
      obtain ⟨kk, ekk, gkk⟩ : ∃ kk : Int, atI [D.int kb, D.int (x5 % ((ts.length : Int) + 1))] (if g3 = true then 1 else 0) = some (.int kk) ∧ (0 ≤ kk ∧ kk ≤ (ts.length : Nat) ↔ g3 = true) := by
        cases g3 with
        | false => exact ⟨_, rfl, by simp only [Bool.false_eq_true, iff_false]; omega⟩
        | true => exact ⟨_, rfl, by simp only [iff_true]; omega⟩
      simp only [f_law_5_eq]
      walk_at "tw"
      simp only [emb, emd]
      simp only [f_law_4_eq]
      walk_at "tw"
      simp only [ekb, ekk]
      refine ⟨by omega, ?_⟩
      simp only [f_law_3_eq]
      walk_at "tw"
      simp only [f_law_2_eq]
      walk_at "tw"
      refine ⟨0, fp, ts, _, kd', wd', .int md, kk, rfl, pkd, pwd, rfl, sh, by omega, ?_⟩
      refine ⟨_, g0, g1, g2, g3, rfl, ?_⟩
      have eo : askX ts ((i : Int) % 3) kd' wd' (.int md) kk = goodX ((i : Int) % 3) g0 g1 g2 g3 := by
        have q1 := Int.emod_nonneg (i : Int) (show (3 : Int) ≠ 0 by decide)
        have q2 := Int.emod_lt_of_pos (i : Int) (show (0 : Int) < 3 by decide)
        generalize (i : Int) % 3 = way at q1 q2 ⊢
        unfold askX goodX
        simp only [gkd, gwd, gmd, gkk]
        rcases (by omega : way = 0 ∨ way = 1 ∨ way = 2) with rfl | rfl | rfl <;> cases g0 <;> cases g1 <;> cases g2 <;> cases g3 <;> simp
      rw [eo]
      have vk : ∀ o, goodX ((i : Int) % 3) g0 g1 g2 g3 = o → o = none ∨ o = some noKn ∨ o = some noNm ∨ o = some noSt := by
        rintro _ rfl
        unfold goodX
        repeat' split
        all_goals simp
      generalize hgo : goodX ((i : Int) % 3) g0 g1 g2 g3 = o
      rcases vk o hgo with rfl | rfl | rfl | rfl <;> (unfold askL; walk_at "tw"; exact hN _ _ _ _ _ _ _ _ _ _ _)
    · rintro S ⟨s7, s8, s9, s10, s11, s12, s13, s14, s15, s16, s17, rfl⟩
      simp only [f_law_13_eq]
      walk_at "tw"
      simp only [mLC]
      walk_at "tw"
      rw [show Int.toNat 4 = 4 from rfl, rngD0]
      refine ⟨by decide, by decide, ?_⟩
      obtain ⟨kx, hkx⟩ : ∃ kx : Nat → Str, ∀ k < 4, ks[k]? = some (kx k) := ⟨fun k => ks.getD k "", fun k hk => by show _ = some (ks.getD k ""); rw [List.getD_eq_getElem?_getD, List.getElem?_eq_getElem (by omega : k < ks.length)]; rfl⟩
      have idx : ∀ (f : Str → D) (k : Nat), k < 4 → (ks.map f)[k]? = some (f (kx k)) := fun f k hk => by
        rw [List.getElem?_map, hkx k hk]
        rfl
      refine lcL_map (fun k : Nat => D.int k) (fun k => if lineOf ts (kx k) ≠ [] then some (.str (kx k)) else none) (fun k hk acc N q => ?_) (fun _ => trivial) (by simp) ?_
      · have hk := List.mem_range.mp hk
        simp only [lcTurn, wipeA]
        walk_at "tw"
        simp only [atI_nat0, idx _ _ hk]
        walk_at "tw"
        have e0 : D.eqs ((lineOf ts (kx k)).map rowD) [] = decide (lineOf ts (kx k) = []) := eqs_rows _ []
        rw [e0]
        by_cases c : lineOf ts (kx k) = []
        · rw [if_neg (by simp [c])] at q
          rw [if_neg (by simp [c])]
          exact q
        · rw [if_pos c] at q
          rw [if_pos (by simp [c])]
          exact q
      have nd4 : (List.range 4).filterMap (fun k => if lineOf ts (kx k) ≠ [] then some (D.str (kx k)) else none) = (ks.filter fun key => decide (lineOf ts key ≠ [])).map D.str := by
        have fourth : ∀ l : List Str, l.length = 4 → ∃ a b c d, l = [a, b, c, d] := fun l hl => by
          match l, hl with
          | [a, b, c, d], _ => exact ⟨a, b, c, d, rfl⟩
        obtain ⟨k0, k1, k2, k3, ek⟩ := fourth ks kl
        have h0 := hkx 0 (by decide)
        have h1 := hkx 1 (by decide)
        have h2 := hkx 2 (by decide)
        have h3 := hkx 3 (by decide)
        rw [ek] at h0 h1 h2 h3
        simp only [List.getElem?_cons_zero, List.getElem?_cons_succ, Option.some.injEq] at h0 h1 h2 h3
        rw [ek, ← List.filterMap_eq_map, List.filterMap_filter]
        simp only [List.range_succ, List.range_zero, List.nil_append, List.cons_append, List.filterMap_cons, List.filterMap_nil, ← h0, ← h1, ← h2, ← h3]
        simp
      rw [nd4, List.nil_append]
      refine lcFin_frz (bels_strs _ _) ?_
      refine sortA_strs rfl ?_
      have e5 : srtS (ks.filter fun key => decide (lineOf ts key ≠ [])) = keysAt ts ts.length := by
        have kp := keys_pick (ts := ts) (k := ts.length) kd hin
        rw [List.take_length] at kp
        rw [← kp]
        exact srt_ext (srtS_sorted _) ((srtS_sorted _).filter _) ((srtS_perm _).nodup_iff.mpr (kd.filter _)) (((srtS_perm _).nodup_iff.mpr kd).filter _) fun a => by
          rw [srtS_mem, List.mem_filter, List.mem_filter, srtS_mem]
      rw [e5]
      walk_at "tw"
      simp only [f_law_12_eq]
      walk_at "tw"
      refine sh.meth List.mem_cons_self (by decide) ?_
      walk_at "tw"
      refine ⟨sh.isA, "Sheet", 0, fp, ts, 0, rfl, sh, ?_⟩
      walk_at "tw"
      refine sh.meth List.mem_cons_self (by decide) ?_
      walk_at "tw"
      refine ⟨sh.isA, sh.ask_keys (Nat.zero_le _) (Nat.le_refl _) (.inl ?_)⟩
      walk_at "tw"
      have y2 : D.eqs (List.map D.str (keysAt ts ts.length)) (List.map D.str (keysAt ts ts.length)) = true := eqs_self' _ _ (lays_strs 58 _)
      rw [y2]
      refine ⟨lays_strs _ _, lays_strs _ _, ?_⟩
      rw [if_neg (by simp)]
      simp only [f_law_11_eq]
      walk_at "tw"
      simp only [mLC]
      walk_at "tw"
      refine lcL_tot D.str (fun key => D.lst ((lineOf ts key).map rowD)) (fun key hkey acc N q => ?_) (fun _ => trivial) (by omega) ?_
      · simp only [lcTurn, wipeA]
        walk_at "tw"
        have sq := sh.grow [O.lst acc]
        refine sq.meth List.mem_cons_self (by decide) ?_
        walk_at "tw"
        refine ⟨sq.isA, sq.ask_line (kn key hkey) (Nat.zero_le _) (Nat.le_refl _) (.inl ?_)⟩
        rw [List.take_length]
        exact q
      refine lcFin_frz (bels_of fun p _ => bel_rows _ _) ?_
      walk_at "tw"
      have ly : D.lays 59 (ks.map fun key => D.lst ((lineOf ts key).map rowD)) = true := lays_of fun key _ => by rw [lay_lst]; exact lays_rows 57 _
      rw [eqs_self' _ _ ly]
      exact ⟨ly, ly, .inl (h _)⟩

theorem nmS {X : Cx} {WE : WX} {l : List Stmt} {f g : MS} (e : f = g) (h : PSs X l (tS X.K WE g)) : PSs X l (tS X.K WE f) := e ▸ h
def dfs : List He.DefD := [⟨("Sheet", some "__init__"), "__init__", "Sheet.__init__", defArgs s_Sheet___init__, defBody s_Sheet___init__, defScope s_Sheet___init__, [], []⟩,
  ⟨("Sheet", some "keys_told"), "keys_told", "Sheet.keys_told", defArgs s_Sheet_keys_told, defBody s_Sheet_keys_told, defScope s_Sheet_keys_told, [], []⟩,
  ⟨("Sheet", some "line_of"), "line_of", "Sheet.line_of", defArgs s_Sheet_line_of, defBody s_Sheet_line_of, defScope s_Sheet_line_of, [], []⟩,
  ⟨("Sheet", some "need_knowing"), "need_knowing", "Sheet.need_knowing", defArgs s_Sheet_need_knowing, defBody s_Sheet_need_knowing, defScope s_Sheet_need_knowing, [], []⟩,
  ⟨("Sheet", some "keys_at"), "keys_at", "Sheet.keys_at", defArgs s_Sheet_keys_at, defBody s_Sheet_keys_at, defScope s_Sheet_keys_at, [], []⟩,
  ⟨("Sheet", some "knowings"), "knowings", "Sheet.knowings", defArgs s_Sheet_knowings, defBody s_Sheet_knowings, defScope s_Sheet_knowings, [], []⟩,
  ⟨("is_name", none), "is_name", "is_name", defArgs s_is_name, defBody s_is_name, defScope s_is_name, [], []⟩,
  ⟨("Sheet", some "need_key"), "need_key", "Sheet.need_key", defArgs s_Sheet_need_key, defBody s_Sheet_need_key, defScope s_Sheet_need_key, [], []⟩,
  ⟨("Sheet", some "line_at"), "line_at", "Sheet.line_at", defArgs s_Sheet_line_at, defBody s_Sheet_line_at, defScope s_Sheet_line_at, [], []⟩,
  ⟨("earlier_end", none), "earlier_end", "earlier_end", defArgs s_earlier_end, defBody s_earlier_end, defScope s_earlier_end, [], []⟩,
  ⟨("common", none), "common", "common", defArgs s_common, defBody s_common, defScope s_common, [], []⟩,
  ⟨("cut_to", none), "cut_to", "cut_to", defArgs s_cut_to, defBody s_cut_to, defScope s_cut_to, [], []⟩,
  ⟨("with_neighbours_joined", none), "with_neighbours_joined", "with_neighbours_joined", defArgs s_with_neighbours_joined, defBody s_with_neighbours_joined, defScope s_with_neighbours_joined, [], []⟩,
  ⟨("put_on", none), "put_on", "put_on", defArgs s_put_on, defBody s_put_on, defScope s_put_on, [], []⟩,
  ⟨("Sheet", some "line_behind"), "line_behind", "Sheet.line_behind", defArgs s_Sheet_line_behind, defBody s_Sheet_line_behind, defScope s_Sheet_line_behind, [], []⟩,
  ⟨("Sheet", some "take_in"), "take_in", "Sheet.take_in", defArgs s_Sheet_take_in, defBody s_Sheet_take_in, defScope s_Sheet_take_in, [], []⟩,
  ⟨("is_moment", none), "is_moment", "is_moment", defArgs s_is_moment, defBody s_is_moment, defScope s_is_moment, [], []⟩,
  ⟨("is_stretch", none), "is_stretch", "is_stretch", defArgs s_is_stretch, defBody s_is_stretch, defScope s_is_stretch, [], []⟩,
  ⟨("Sheet", some "tell"), "tell", "Sheet.tell", defArgs s_Sheet_tell, defBody s_Sheet_tell, defScope s_Sheet_tell, [], []⟩,
  ⟨("worth_in", none), "worth_in", "worth_in", defArgs s_worth_in, defBody s_worth_in, defScope s_worth_in, [], []⟩,
  ⟨("Sheet", some "worth_at"), "worth_at", "Sheet.worth_at", defArgs s_Sheet_worth_at, defBody s_Sheet_worth_at, defScope s_Sheet_worth_at, [], []⟩,
  ⟨("all_at", none), "all_at", "all_at", defArgs s_all_at, defBody s_all_at, defScope s_all_at, [], []⟩,
  ⟨("need_name", none), "need_name", "need_name", defArgs s_need_name, defBody s_need_name, defScope s_need_name, [], []⟩,
  ⟨("when", none), "when", "when", defArgs s_when, defBody s_when, defScope s_when, [], []⟩,
  ⟨("who", none), "who", "who", defArgs s_who, defBody s_who, defScope s_who, [], []⟩,
  ⟨("_law_called", none), "_law_called", "_law_called", defArgs s__law_called, defBody s__law_called, defScope s__law_called, [], []⟩,
  ⟨("_law_asked", none), "_law_asked", "_law_asked", defArgs s__law_asked, defBody s__law_asked, defScope s__law_asked, [], []⟩,
  ⟨("_law_cell_at", none), "_law_cell_at", "_law_cell_at", defArgs s__law_cell_at, defBody s__law_cell_at, defScope s__law_cell_at, [], []⟩,
  ⟨("_law_due", none), "_law_due", "_law_due", defArgs s__law_due, defBody s__law_due, defScope s__law_due, [], []⟩,
  ⟨("_law_by_digits", none), "_law_by_digits", "_law_by_digits", defArgs s__law_by_digits, defBody s__law_by_digits, defScope s__law_by_digits, [], []⟩,
  ⟨("_law_tumbled", none), "_law_tumbled", "_law_tumbled", defArgs s__law_tumbled, defBody s__law_tumbled, defScope s__law_tumbled, [], []⟩,
  ⟨("_law_stretch", none), "_law_stretch", "_law_stretch", defArgs s__law_stretch, defBody s__law_stretch, defScope s__law_stretch, [], []⟩,
  ⟨("_law_telling", none), "_law_telling", "_law_telling", defArgs s__law_telling, defBody s__law_telling, defScope s__law_telling, [], []⟩,
  ⟨("_law_words", none), "_law_words", "_law_words", defArgs s__law_words, defBody s__law_words, defScope s__law_words, [], []⟩,
  ⟨("law", none), "law", "law", defArgs s_law, defBody s_law, defScope s_law, [], []⟩]
def fas : List He.Fa := [.free "range",
  .free "int",
  .free "sorted",
  .cls "Sheet",
  .noat "Sheet" "told_so",
  .noat "Sheet" "became",
  .free "list",
  .free "len",
  .glo "NoKnowing",
  .exc "NoKnowing",
  .glo "NoName",
  .exc "NoName",
  .free "str",
  .free "isinstance",
  .str "LETTERS" "abcdefghijklmnopqrstuvwxyz",
  .glo "NoStretch",
  .exc "NoStretch",
  .free "max",
  .free "min",
  .free "bool",
  .int "LAST" 1000000000000,
  .glo "NoSheet",
  .glo "NoRow",
  .glo "NoLog",
  .glo "NoFit",
  .glo "Forgotten",
  .glo "Broken",
  .glo "TimesError",
  .free "ValueError",
  .exm "NoKnowing" "NoKnowing" true,
  .exm "NoStretch" "NoKnowing" false,
  .exm "NoName" "NoKnowing" false,
  .exm "NoName" "NoName" true,
  .exm "NoStretch" "NoName" false,
  .exm "NoStretch" "NoStretch" true,
  .glo "is_name",
  .glo "earlier_end",
  .glo "common",
  .glo "cut_to",
  .glo "with_neighbours_joined",
  .glo "put_on",
  .glo "is_moment",
  .glo "is_stretch",
  .glo "worth_in",
  .glo "all_at",
  .glo "need_name",
  .glo "when",
  .glo "who",
  .glo "_law_called",
  .glo "_law_asked",
  .glo "_law_cell_at",
  .glo "_law_due",
  .glo "_law_by_digits",
  .glo "_law_tumbled",
  .glo "_law_stretch",
  .glo "_law_telling",
  .glo "_law_words",
  .glo "law",
  .glo "Sheet",
  .mkr "Sheet",
  .meth "Sheet" "keys_told",
  .meth "Sheet" "line_of",
  .meth "Sheet" "need_knowing",
  .meth "Sheet" "keys_at",
  .meth "Sheet" "knowings",
  .meth "Sheet" "need_key",
  .meth "Sheet" "line_at",
  .meth "Sheet" "line_behind",
  .meth "Sheet" "take_in",
  .meth "Sheet" "tell",
  .meth "Sheet" "worth_at"]
def fxs : List Fx := [.one "NoKnowing" "NoStretch" false,
  .one "NoKnowing" "NoSheet" false,
  .one "NoKnowing" "NoRow" false,
  .one "NoKnowing" "NoName" false,
  .one "NoKnowing" "NoLog" false,
  .one "NoKnowing" "NoFit" false,
  .one "NoKnowing" "Forgotten" false,
  .one "NoKnowing" "Broken" false,
  .isc "NoKnowing",
  .one "NoKnowing" "TimesError" true,
  .oneT "NoKnowing" "ValueError" true,
  .one "NoName" "NoStretch" false,
  .one "NoName" "NoSheet" false,
  .one "NoName" "NoRow" false,
  .one "NoName" "NoKnowing" false,
  .one "NoName" "NoLog" false,
  .one "NoName" "NoFit" false,
  .one "NoName" "Forgotten" false,
  .one "NoName" "Broken" false,
  .isc "NoName",
  .one "NoName" "TimesError" true,
  .oneT "NoName" "ValueError" true,
  .one "NoStretch" "NoKnowing" false,
  .one "NoStretch" "NoSheet" false,
  .one "NoStretch" "NoRow" false,
  .one "NoStretch" "NoName" false,
  .one "NoStretch" "NoLog" false,
  .one "NoStretch" "NoFit" false,
  .one "NoStretch" "Forgotten" false,
  .one "NoStretch" "Broken" false,
  .isc "NoStretch",
  .one "NoStretch" "TimesError" true,
  .oneT "NoStretch" "ValueError" true]
section
variable {P : Program} {w : World} {K : PySem.W.Frag} {mg : Str → Option Value} {base : Heap}
theorem sc_Sheet___init__ : FnScope N_Sheet___init__ ["self"] (defScope s_Sheet___init__) := ⟨rfl, rfl, rfl, by decide +kernel, rfl, by decide +kernel, by decide +kernel⟩
theorem ok_Sheet___init__ (T : FT fas fxs dfs K mg) : BodyOk P w K mg base 1 "__init__" "Sheet.__init__" s_Sheet___init__ ["self"] c_Sheet___init__ := fun f fd F =>
  ⟨fnD (k := 0) F sc_Sheet___init__ len_Sheet___init__ (fun cdv A outer s H E hr tk => (nmS (f_Sheet___init___eq) (ds_cons (d_fld (Cs := UF_told_so) (dv 0) (de_lst (hh := true) da_nil) (all_cons ⟨T.cls 3, T.noat 4⟩ all_nil))
  (nmS (f_Sheet___init___1_eq) (ds_one (d_fld (Cs := UF_became) (dv 0) (de_dct0 (h := true)) (all_cons ⟨T.cls 3, T.noat 5⟩ all_nil))))))) pure_Sheet___init__, F.bindsN fun _ _ _ _ _ _ us hl => match us, hl with | [_], _ => rfl⟩
theorem sc_Sheet_keys_told : FnScope N_Sheet_keys_told ["self"] (defScope s_Sheet_keys_told) := ⟨rfl, rfl, rfl, by decide +kernel, rfl, by decide +kernel, by decide +kernel⟩
theorem ok_Sheet_keys_told (T : FT fas fxs dfs K mg) : BodyOk P w K mg base 1 "keys_told" "Sheet.keys_told" s_Sheet_keys_told ["self"] c_Sheet_keys_told := fun f fd F =>
  ⟨fnD (k := 0) F sc_Sheet_keys_told len_Sheet_keys_told (fun cdv A outer s H E hr tk => (nmS (f_Sheet_keys_told_eq) (ds_one (d_ret (de_callB (call_sortDT rfl (hu80 hr)) (ca_sortDT (h := false)) (T.fr 2) (by decide +kernel) (da_cons (de_fld (Cs := UF_became) (dv 0) (all_cons ⟨T.cls 3, T.noat 5⟩ all_nil)) da_nil)))))) pure_Sheet_keys_told, F.bindsN fun _ _ _ _ _ _ us hl => match us, hl with | [_], _ => rfl⟩
theorem sc_Sheet_line_of : FnScope N_Sheet_line_of ["self", "key", "knowing"] (defScope s_Sheet_line_of) := ⟨rfl, rfl, rfl, by decide +kernel, rfl, by decide +kernel, by decide +kernel⟩
theorem ok_Sheet_line_of (T : FT fas fxs dfs K mg) : BodyOk P w K mg base 1 "line_of" "Sheet.line_of" s_Sheet_line_of ["self", "key", "knowing"] c_Sheet_line_of := fun f fd F =>
  ⟨fnD (k := 0) F sc_Sheet_line_of len_Sheet_line_of (fun cdv A outer s H E hr tk => (nmS (f_Sheet_line_of_eq) (ds_cons (d_set 3 sc_Sheet_line_of.nd (de_lst (hh := false) da_nil))
  (nmS (f_Sheet_line_of_3_eq) (ds_cons (d_for (passes_of rfl) rfl (di_any (de_get2 (hu64 hr) (de_fld (Cs := UF_became) (dv 0) (all_cons ⟨T.cls 3, T.noat 5⟩ all_nil)) (dv 1) (de_lst (hh := false) da_nil))) (dg_tup rfl (dgs_cons (dg_name (own := [4, 5]) 4 sc_Sheet_line_of.nd) (dgs_cons (dg_name (own := [4, 5]) 5 sc_Sheet_line_of.nd) dgs_nil))) (nmS (f_Sheet_line_of_1_eq) (ds_one (d_if (dt_cmp op_le opa_le (dv 4) (dv 2) (nomark _)) (ds_one (d_set 3 sc_Sheet_line_of.nd (dv 5))) ds_nil))))
  (nmS (f_Sheet_line_of_2_eq) (ds_one (d_ret (de_callTy call_list_of (ca_list true) (T.fr 6) (by decide +kernel) (da_cons (dv 3) da_nil)))))))))) pure_Sheet_line_of, F.bindsN fun _ _ _ _ _ _ us hl => match us, hl with | [_, _, _], _ => rfl⟩
theorem sc_Sheet_need_knowing : FnScope N_Sheet_need_knowing ["self", "knowing"] (defScope s_Sheet_need_knowing) := ⟨rfl, rfl, rfl, by decide +kernel, rfl, by decide +kernel, by decide +kernel⟩
theorem ok_Sheet_need_knowing (T : FT fas fxs dfs K mg) : BodyOk P w K mg base 1 "need_knowing" "Sheet.need_knowing" s_Sheet_need_knowing ["self", "knowing"] c_Sheet_need_knowing := fun f fd F =>
  ⟨fnD (k := 0) F sc_Sheet_need_knowing len_Sheet_need_knowing (fun cdv A outer s H E hr tk => (nmS (f_Sheet_need_knowing_eq) (ds_one (d_if (dt_not (dt_chain op_le opa_le op_le opa_le d_int (dv 1) (de_callB call_len ca_len (T.fr 7) (by decide +kernel) (da_cons (de_fld (Cs := UF_told_so) (dv 0) (all_cons ⟨T.cls 3, T.noat 4⟩ all_nil)) da_nil)))) (ds_one (d_raise0 (T.xmk 8 9) rfl tk)) ds_nil)))) pure_Sheet_need_knowing, F.bindsN fun _ _ _ _ _ _ us hl => match us, hl with | [_, _], _ => rfl⟩
theorem sc_Sheet_keys_at : FnScope N_Sheet_keys_at ["self", "knowing"] (defScope s_Sheet_keys_at) := ⟨rfl, rfl, rfl, by decide +kernel, rfl, by decide +kernel, by decide +kernel⟩
structure Cs_Sheet_keys_at (P : Program) (w : World) (K : PySem.W.Frag) (mg : Str → Option Value) (base : Heap) : Prop where
  m_keys_told_1 : MOk P w K mg base 1 "keys_told" T_keys_told_1
  m_line_of_3 : MOk P w K mg base 1 "line_of" T_line_of_3
  m_need_knowing_2 : MOk P w K mg base 1 "need_knowing" T_need_knowing_2
theorem ok_Sheet_keys_at (T : FT fas fxs dfs K mg) (C : Cs_Sheet_keys_at P w K mg base) : BodyOk P w K mg base 2 "keys_at" "Sheet.keys_at" s_Sheet_keys_at ["self", "knowing"] c_Sheet_keys_at := fun f fd F =>
  ⟨fnD (k := 1) F sc_Sheet_keys_at len_Sheet_keys_at (fun cdv A outer s H E hr tk => (nmS (f_Sheet_keys_at_eq) (ds_cons (d_expr (dm C.m_need_knowing_2 hr tk (dv 0) (da_cons (dv 1) da_nil)))
  (nmS (f_Sheet_keys_at_1_eq) (ds_one (d_ret (de_lc (frz := false) (own := [("key", 2)]) rfl sc_Sheet_keys_at.nd (di_any (dm0 C.m_keys_told_1 hr tk (dv 0))) (blkOk_by (own := [("key", 2)]) (N := N_Sheet_keys_at) (sc := defScope s_Sheet_keys_at) (by decide +kernel)) (fun _ _ _ _ _ => (dg_name (own := [2]) 2 sc_Sheet_keys_at.nd)) (fun _ _ _ _ _ => (dts_one (dt_cmp (op_neP (hu64 hr)) opa_ne (dm C.m_line_of_3 hr takes0 (dv 0) (da_cons (dv 2) (da_cons (dv 1) da_nil))) (de_lst (hh := false) da_nil) (nomark _)))) (fun _ _ _ _ _ => (dv 2))))))))) pure_Sheet_keys_at, F.bindsN fun _ _ _ _ _ _ us hl => match us, hl with | [_, _], _ => rfl⟩
theorem sc_Sheet_knowings : FnScope N_Sheet_knowings ["self"] (defScope s_Sheet_knowings) := ⟨rfl, rfl, rfl, by decide +kernel, rfl, by decide +kernel, by decide +kernel⟩
theorem ok_Sheet_knowings (T : FT fas fxs dfs K mg) : BodyOk P w K mg base 1 "knowings" "Sheet.knowings" s_Sheet_knowings ["self"] c_Sheet_knowings := fun f fd F =>
  ⟨fnD (k := 0) F sc_Sheet_knowings len_Sheet_knowings (fun cdv A outer s H E hr tk => (nmS (f_Sheet_knowings_eq) (ds_one (d_ret (de_callB call_len ca_len (T.fr 7) (by decide +kernel) (da_cons (de_fld (Cs := UF_told_so) (dv 0) (all_cons ⟨T.cls 3, T.noat 4⟩ all_nil)) da_nil)))))) pure_Sheet_knowings, F.bindsN fun _ _ _ _ _ _ us hl => match us, hl with | [_], _ => rfl⟩
theorem sc_is_name : FnScope N_is_name ["thing"] (defScope s_is_name) := ⟨rfl, rfl, rfl, by decide +kernel, rfl, by decide +kernel, by decide +kernel⟩
theorem ok_is_name (T : FT fas fxs dfs K mg) : FOk P w K mg base 1 "is_name" c_is_name :=
  T.fok 6 35 (ps := ["thing"]) rfl rfl rfl rfl rfl (fun fd F => F.bindsN fun _ _ _ _ _ _ us hl => match us, hl with | [_], _ => rfl) fun fd F =>
  fnD (k := 0) F sc_is_name len_is_name (fun cdv A outer s H E hr tk => (nmS (f_is_name_eq) (ds_cons (d_if (PW.pt (dw_or (dt_not (dt_val (de_callB call_isi ca_isi (T.fr 13) (by decide +kernel) (da_cons (dv 0) (da_cons (d_type (T.fr 12) (by decide +kernel)) da_nil))))) (dw_or1 (dt_not (dt_chain op_le opa_le op_le opa_le d_int (de_callB call_len ca_len (T.fr 7) (by decide +kernel) (da_cons (dv 0) da_nil)) d_int))))) (ds_one (d_ret d_bl)) ds_nil)
  (nmS (f_is_name_3_eq) (ds_cons (d_for (passes_of rfl) rfl (di_any (dv 0)) (dg_name (own := [1]) 1 sc_is_name.nd) (nmS (f_is_name_1_eq) (ds_one (d_if (dt_cmp (op_inT (hu64 hr)) (opa_in true) (dv 1) (dgS (T.str 14)) (by with_unfolding_all rfl)) (ds_one (d_ret d_bl)) ds_nil))))
  (nmS (f_is_name_2_eq) (ds_one (d_ret d_bl)))))))) pure_is_name
theorem sc_Sheet_need_key : FnScope N_Sheet_need_key ["self", "key"] (defScope s_Sheet_need_key) := ⟨rfl, rfl, rfl, by decide +kernel, rfl, by decide +kernel, by decide +kernel⟩
structure Cs_Sheet_need_key (P : Program) (w : World) (K : PySem.W.Frag) (mg : Str → Option Value) (base : Heap) : Prop where
  is_name : FOk P w K mg base 1 "is_name" c_is_name
theorem ok_Sheet_need_key (T : FT fas fxs dfs K mg) (C : Cs_Sheet_need_key P w K mg base) : BodyOk P w K mg base 2 "need_key" "Sheet.need_key" s_Sheet_need_key ["self", "key"] c_Sheet_need_key := fun f fd F =>
  ⟨fnD (k := 1) F sc_Sheet_need_key len_Sheet_need_key (fun cdv A outer s H E hr tk => (nmS (f_Sheet_need_key_eq) (ds_one (d_if (dt_not (dt_val (dc C.is_name hr tk (da_cons (dv 1) da_nil)))) (ds_one (d_raise0 (T.xmk 10 11) rfl tk)) ds_nil)))) pure_Sheet_need_key, F.bindsN fun _ _ _ _ _ _ us hl => match us, hl with | [_, _], _ => rfl⟩
theorem sc_Sheet_line_at : FnScope N_Sheet_line_at ["self", "key", "knowing"] (defScope s_Sheet_line_at) := ⟨rfl, rfl, rfl, by decide +kernel, rfl, by decide +kernel, by decide +kernel⟩
structure Cs_Sheet_line_at (P : Program) (w : World) (K : PySem.W.Frag) (mg : Str → Option Value) (base : Heap) : Prop where
  m_line_of_3 : MOk P w K mg base 1 "line_of" T_line_of_3
  m_need_key_2 : MOk P w K mg base 2 "need_key" T_need_key_2
  m_need_knowing_2 : MOk P w K mg base 1 "need_knowing" T_need_knowing_2
theorem ok_Sheet_line_at (T : FT fas fxs dfs K mg) (C : Cs_Sheet_line_at P w K mg base) : BodyOk P w K mg base 3 "line_at" "Sheet.line_at" s_Sheet_line_at ["self", "key", "knowing"] c_Sheet_line_at := fun f fd F =>
  ⟨fnD (k := 2) F sc_Sheet_line_at len_Sheet_line_at (fun cdv A outer s H E hr tk => (nmS (f_Sheet_line_at_eq) (ds_cons (d_expr (dm C.m_need_knowing_2 hr tk (dv 0) (da_cons (dv 2) da_nil)))
  (nmS (f_Sheet_line_at_2_eq) (ds_cons (d_expr (dm C.m_need_key_2 hr tk (dv 0) (da_cons (dv 1) da_nil)))
  (nmS (f_Sheet_line_at_1_eq) (ds_one (d_ret (dm C.m_line_of_3 hr tk (dv 0) (da_cons (dv 1) (da_cons (dv 2) da_nil))))))))))) pure_Sheet_line_at, F.bindsN fun _ _ _ _ _ _ us hl => match us, hl with | [_, _, _], _ => rfl⟩
theorem sc_earlier_end : FnScope N_earlier_end ["one", "other"] (defScope s_earlier_end) := ⟨rfl, rfl, rfl, by decide +kernel, rfl, by decide +kernel, by decide +kernel⟩
theorem ok_earlier_end (T : FT fas fxs dfs K mg) : FOk P w K mg base 1 "earlier_end" c_earlier_end :=
  T.fok 9 36 (ps := ["one", "other"]) rfl rfl rfl rfl rfl (fun fd F => F.bindsN fun _ _ _ _ _ _ us hl => match us, hl with | [_, _], _ => rfl) fun fd F =>
  fnD (k := 0) F sc_earlier_end len_earlier_end (fun cdv A outer s H E hr tk => (nmS (f_earlier_end_eq) (ds_cons (d_if (dt_cmp op_isN opa_isN (dv 0) d_non (nomark _)) (ds_one (d_ret (dv 1))) ds_nil)
  (nmS (f_earlier_end_2_eq) (ds_cons (d_if (dt_cmp op_isN opa_isN (dv 1) d_non (nomark _)) (ds_one (d_ret (dv 0))) ds_nil)
  (nmS (f_earlier_end_1_eq) (ds_one (d_ret (de_callB (call_min2 rfl) ca_min (T.fr 18) (by decide +kernel) (da_cons (dv 0) (da_cons (dv 1) da_nil))))))))))) pure_earlier_end
theorem sc_common : FnScope N_common ["one", "other"] (defScope s_common) := ⟨rfl, rfl, rfl, by decide +kernel, rfl, by decide +kernel, by decide +kernel⟩
structure Cs_common (P : Program) (w : World) (K : PySem.W.Frag) (mg : Str → Option Value) (base : Heap) : Prop where
  earlier_end : FOk P w K mg base 1 "earlier_end" c_earlier_end
theorem ok_common (T : FT fas fxs dfs K mg) (C : Cs_common P w K mg base) : FOk P w K mg base 2 "common" c_common :=
  T.fok 10 37 (ps := ["one", "other"]) rfl rfl rfl rfl rfl (fun fd F => F.bindsN fun _ _ _ _ _ _ us hl => match us, hl with | [_, _], _ => rfl) fun fd F =>
  fnD (k := 1) F sc_common len_common (fun cdv A outer s H E hr tk => (nmS (f_common_eq) (ds_cons (d_set 2 sc_common.nd (de_callB (call_max2 rfl) ca_max (T.fr 17) (by decide +kernel) (da_cons (de_ix (hu64 hr) (dv 0) d_int) (da_cons (de_ix (hu64 hr) (dv 1) d_int) da_nil))))
  (nmS (f_common_3_eq) (ds_cons (d_set 3 sc_common.nd (dc C.earlier_end hr tk (da_cons (de_ix (hu64 hr) (dv 0) d_int) (da_cons (de_ix (hu64 hr) (dv 1) d_int) da_nil))))
  (nmS (f_common_2_eq) (ds_cons (d_if (PW.pt (dw_and (dt_cmp op_notN opa_notN (dv 3) d_non (nomark _)) (dw_and1 (dt_cmp op_le opa_le (dv 3) (dv 2) (nomark _))))) (ds_one (d_ret d_non)) ds_nil)
  (nmS (f_common_1_eq) (ds_one (d_ret (de_tup (da_cons (dv 2) (da_cons (dv 3) da_nil))))))))))))) pure_common
theorem sc_cut_to : FnScope N_cut_to ["line", "begin", "end"] (defScope s_cut_to) := ⟨rfl, rfl, rfl, by decide +kernel, rfl, by decide +kernel, by decide +kernel⟩
structure Cs_cut_to (P : Program) (w : World) (K : PySem.W.Frag) (mg : Str → Option Value) (base : Heap) : Prop where
  common : FOk P w K mg base 2 "common" c_common
theorem ok_cut_to (T : FT fas fxs dfs K mg) (C : Cs_cut_to P w K mg base) : FOk P w K mg base 3 "cut_to" c_cut_to :=
  T.fok 11 38 (ps := ["line", "begin", "end"]) rfl rfl rfl rfl rfl (fun fd F => F.bindsN fun _ _ _ _ _ _ us hl => match us, hl with | [_, _, _], _ => rfl) fun fd F =>
  fnD (k := 2) F sc_cut_to len_cut_to (fun cdv A outer s H E hr tk => (nmS (f_cut_to_eq) (ds_cons (d_set 3 sc_cut_to.nd (de_lst (hh := true) da_nil))
  (nmS (f_cut_to_4_eq) (ds_cons (d_for (passes_of rfl) rfl (di_any (dv 0)) (dg_name (own := [4]) 4 sc_cut_to.nd) (nmS (f_cut_to_2_eq) (ds_cons (d_set 5 sc_cut_to.nd (dc C.common hr tk (da_cons (de_sl (hh := false) (dv 4) do_none (do_some d_int)) (da_cons (de_tup (da_cons (dv 1) (da_cons (dv 2) da_nil))) da_nil))))
  (nmS (f_cut_to_1_eq) (ds_one (d_if (dt_cmp op_notN opa_notN (dv 5) d_non (nomark _)) (ds_one (d_expr (de_bm (pe_bm PySem.F.plainAttrs_list PySem.F.slot_list_append PySem.F.type_list_append mt_append (dv 3) (da_cons (de_bin op_addAll (opa_add false) (dv 5) (de_sl (hh := false) (dv 4) (do_some d_int) do_none)) da_nil)) ty_lst ma_append))) ds_nil))))))
  (nmS (f_cut_to_3_eq) (ds_one (d_ret (dv 3))))))))) pure_cut_to
theorem sc_with_neighbours_joined : FnScope N_with_neighbours_joined ["rows"] (defScope s_with_neighbours_joined) := ⟨rfl, rfl, rfl, by decide +kernel, rfl, by decide +kernel, by decide +kernel⟩
theorem ok_with_neighbours_joined (T : FT fas fxs dfs K mg) : FOk P w K mg base 1 "with_neighbours_joined" c_with_neighbours_joined :=
  T.fok 12 39 (ps := ["rows"]) rfl rfl rfl rfl rfl (fun fd F => F.bindsN fun _ _ _ _ _ _ us hl => match us, hl with | [_], _ => rfl) fun fd F =>
  fnD (k := 0) F sc_with_neighbours_joined len_with_neighbours_joined (fun cdv A outer s H E hr tk => (nmS (f_with_neighbours_joined_eq) (ds_cons (d_set 1 sc_with_neighbours_joined.nd (de_lst (hh := true) da_nil))
  (nmS (f_with_neighbours_joined_3_eq) (ds_cons (d_for (passes_of rfl) rfl (di_any (dv 0)) (dg_name (own := [2]) 2 sc_with_neighbours_joined.nd) (nmS (f_with_neighbours_joined_1_eq) (ds_one (d_if (PW.pt (dw_and (dt_cmp (op_neP (hu64 hr)) opa_ne (dv 1) (de_lst (hh := false) da_nil) (nomark _)) (dw_and (dt_cmp (op_eqP (hu64 hr)) opa_eq (de_ix (hu64 hr) (de_ix (hu64 hr) (dv 1) (de_neg d_int)) d_int) (de_ix (hu64 hr) (dv 2) d_int) (nomark _)) (dw_and1 (dt_cmp (op_eqP (hu64 hr)) opa_eq (de_sl (hh := false) (de_ix (hu64 hr) (dv 1) (de_neg d_int)) (do_some d_int) do_none) (de_sl (hh := false) (dv 2) (do_some d_int) do_none) (nomark _)))))) (ds_one (d_asg (de_bin op_addAll (opa_add false) (de_tup (da_cons (de_ix (hu64 hr) (de_ix (hu64 hr) (dv 1) (de_neg d_int)) d_int) da_nil)) (de_sl (hh := false) (dv 2) (do_some d_int) do_none)) (dg_sub (own := []) (hu64 hr) (dv 1) (de_neg d_int)))) (ds_one (d_expr (de_bm (pe_bm PySem.F.plainAttrs_list PySem.F.slot_list_append PySem.F.type_list_append mt_append (dv 1) (da_cons (dv 2) da_nil)) ty_lst ma_append)))))))
  (nmS (f_with_neighbours_joined_2_eq) (ds_one (d_ret (dv 1))))))))) pure_with_neighbours_joined
theorem sc_put_on : FnScope N_put_on ["line", "begin", "end", "worth"] (defScope s_put_on) := ⟨rfl, rfl, rfl, by decide +kernel, rfl, by decide +kernel, by decide +kernel⟩
structure Cs_put_on (P : Program) (w : World) (K : PySem.W.Frag) (mg : Str → Option Value) (base : Heap) : Prop where
  cut_to : FOk P w K mg base 3 "cut_to" c_cut_to
  with_neighbours_joined : FOk P w K mg base 1 "with_neighbours_joined" c_with_neighbours_joined
theorem ok_put_on (T : FT fas fxs dfs K mg) (C : Cs_put_on P w K mg base) : FOk P w K mg base 4 "put_on" c_put_on :=
  T.fok 13 40 (ps := ["line", "begin", "end", "worth"]) rfl rfl rfl rfl rfl (fun fd F => F.bindsN fun _ _ _ _ _ _ us hl => match us, hl with | [_, _, _, _], _ => rfl) fun fd F =>
  fnD (k := 3) F sc_put_on len_put_on (fun cdv A outer s H E hr tk => (nmS (f_put_on_eq) (ds_cons (d_set 4 sc_put_on.nd (de_lst (hh := true) da_nil))
  (nmS (f_put_on_4_eq) (ds_cons (d_if (dt_cmp op_gt opa_gt (dv 1) d_int (nomark _)) (ds_one (d_expr (de_bm (pe_bm PySem.F.plainAttrs_list PySem.F.slot_list_extend PySem.F.type_list_extend mt_extend (dv 4) (da_cons (dc C.cut_to hr tk (da_cons (dv 0) (da_cons d_int (da_cons (dv 1) da_nil)))) da_nil)) ty_lst ma_extend))) ds_nil)
  (nmS (f_put_on_3_eq) (ds_cons (d_if (dt_cmp op_notN opa_notN (dv 3) d_non (nomark _)) (ds_one (d_expr (de_bm (pe_bm PySem.F.plainAttrs_list PySem.F.slot_list_append PySem.F.type_list_append mt_append (dv 4) (da_cons (de_tup (da_cons (dv 1) (da_cons (dv 2) (da_cons (dv 3) da_nil)))) da_nil)) ty_lst ma_append))) ds_nil)
  (nmS (f_put_on_2_eq) (ds_cons (d_if (dt_cmp op_notN opa_notN (dv 2) d_non (nomark _)) (ds_one (d_expr (de_bm (pe_bm PySem.F.plainAttrs_list PySem.F.slot_list_extend PySem.F.type_list_extend mt_extend (dv 4) (da_cons (dc C.cut_to hr tk (da_cons (dv 0) (da_cons (dv 2) (da_cons d_non da_nil)))) da_nil)) ty_lst ma_extend))) ds_nil)
  (nmS (f_put_on_1_eq) (ds_one (d_ret (dc C.with_neighbours_joined hr tk (da_cons (dv 4) da_nil)))))))))))))) pure_put_on
theorem sc_Sheet_line_behind : FnScope N_Sheet_line_behind ["self", "telling", "knowing"] (defScope s_Sheet_line_behind) := ⟨rfl, rfl, rfl, by decide +kernel, rfl, by decide +kernel, by decide +kernel⟩
structure Cs_Sheet_line_behind (P : Program) (w : World) (K : PySem.W.Frag) (mg : Str → Option Value) (base : Heap) : Prop where
  put_on : FOk P w K mg base 4 "put_on" c_put_on
  m_line_of_3 : MOk P w K mg base 1 "line_of" T_line_of_3
theorem ok_Sheet_line_behind (T : FT fas fxs dfs K mg) (C : Cs_Sheet_line_behind P w K mg base) : BodyOk P w K mg base 5 "line_behind" "Sheet.line_behind" s_Sheet_line_behind ["self", "telling", "knowing"] c_Sheet_line_behind := fun f fd F =>
  ⟨fnD (k := 4) F sc_Sheet_line_behind len_Sheet_line_behind (fun cdv A outer s H E hr tk => (nmS (f_Sheet_line_behind_eq) (ds_cons (d_set 3 sc_Sheet_line_behind.nd d_non)
  (nmS (f_Sheet_line_behind_2_eq) (ds_cons (d_if (dt_cmp (op_eqP (hu64 hr)) opa_eq (de_ix (hu64 hr) (dv 1) d_int) d_str (nomark _)) (ds_one (d_set 3 sc_Sheet_line_behind.nd (de_ix (hu64 hr) (dv 1) d_int))) ds_nil)
  (nmS (f_Sheet_line_behind_1_eq) (ds_one (d_ret (dc C.put_on hr tk (da_cons (dm C.m_line_of_3 hr tk (dv 0) (da_cons (de_ix (hu64 hr) (dv 1) d_int) (da_cons (de_bin op_sub opa_sub (dv 2) d_int) da_nil))) (da_cons (de_ix (hu64 hr) (dv 1) (de_neg d_int)) (da_cons (de_ix (hu64 hr) (dv 1) (de_neg d_int)) (da_cons (dv 3) da_nil))))))))))))) pure_Sheet_line_behind, F.bindsN fun _ _ _ _ _ _ us hl => match us, hl with | [_, _, _], _ => rfl⟩
theorem sc_Sheet_take_in : FnScope N_Sheet_take_in ["self", "telling", "knowing"] (defScope s_Sheet_take_in) := ⟨rfl, rfl, rfl, by decide +kernel, rfl, by decide +kernel, by decide +kernel⟩
structure Cs_Sheet_take_in (P : Program) (w : World) (K : PySem.W.Frag) (mg : Str → Option Value) (base : Heap) : Prop where
  m_line_behind_3 : MOk P w K mg base 5 "line_behind" T_line_behind_3
theorem ok_Sheet_take_in (T : FT fas fxs dfs K mg) (C : Cs_Sheet_take_in P w K mg base) : BodyOk P w K mg base 6 "take_in" "Sheet.take_in" s_Sheet_take_in ["self", "telling", "knowing"] c_Sheet_take_in := fun f fd F =>
  ⟨fnD (k := 5) F sc_Sheet_take_in len_Sheet_take_in (fun cdv A outer s H E hr tk => (nmS (f_Sheet_take_in_eq) (ds_cons (d_set 3 sc_Sheet_take_in.nd (dm C.m_line_behind_3 hr tk (dv 0) (da_cons (dv 1) (da_cons (dv 2) da_nil))))
  (nmS (f_Sheet_take_in_2_eq) (ds_cons (d_if (dt_cmp (op_inT (hu64 hr)) (opa_in true) (de_ix (hu64 hr) (dv 1) d_int) (de_fld (Cs := UF_became) (dv 0) (all_cons ⟨T.cls 3, T.noat 5⟩ all_nil)) (by with_unfolding_all rfl)) (ds_one (d_asg (de_lst (hh := true) da_nil) (dg_sub (own := []) (hu64 hr) (de_fld (Cs := UF_became) (dv 0) (all_cons ⟨T.cls 3, T.noat 5⟩ all_nil)) (de_ix (hu64 hr) (dv 1) d_int)))) ds_nil)
  (nmS (f_Sheet_take_in_1_eq) (ds_one (d_expr (de_bm (pe_bm PySem.F.plainAttrs_list PySem.F.slot_list_append PySem.F.type_list_append mt_append (de_ix (hu64 hr) (de_fld (Cs := UF_became) (dv 0) (all_cons ⟨T.cls 3, T.noat 5⟩ all_nil)) (de_ix (hu64 hr) (dv 1) d_int)) (da_cons (de_tup (da_cons (dv 2) (da_cons (dv 3) da_nil))) da_nil)) ty_lst ma_append))))))))) pure_Sheet_take_in, F.bindsN fun _ _ _ _ _ _ us hl => match us, hl with | [_, _, _], _ => rfl⟩
theorem sc_is_moment : FnScope N_is_moment ["thing"] (defScope s_is_moment) := ⟨rfl, rfl, rfl, by decide +kernel, rfl, by decide +kernel, by decide +kernel⟩
theorem ok_is_moment (T : FT fas fxs dfs K mg) : FOk P w K mg base 1 "is_moment" c_is_moment :=
  T.fok 16 41 (ps := ["thing"]) rfl rfl rfl rfl rfl (fun fd F => F.bindsN fun _ _ _ _ _ _ us hl => match us, hl with | [_], _ => rfl) fun fd F =>
  fnD (k := 0) F sc_is_moment len_is_moment (fun cdv A outer s H E hr tk => (nmS (f_is_moment_eq) (ds_one (d_ret (de_and (de_callB call_isi ca_isi (T.fr 13) (by decide +kernel) (da_cons (dv 0) (da_cons (d_type (T.fr 1) (by decide +kernel)) da_nil))) (de_and (de_not (de_callB call_isi ca_isi (T.fr 13) (by decide +kernel) (da_cons (dv 0) (da_cons (d_type (T.fr 19) (by decide +kernel)) da_nil)))) (de_one (de_chain op_le opa_le op_le opa_le d_int (dv 0) (dgI (T.int 20)))))))))) pure_is_moment
theorem sc_is_stretch : FnScope N_is_stretch ["begin", "end"] (defScope s_is_stretch) := ⟨rfl, rfl, rfl, by decide +kernel, rfl, by decide +kernel, by decide +kernel⟩
structure Cs_is_stretch (P : Program) (w : World) (K : PySem.W.Frag) (mg : Str → Option Value) (base : Heap) : Prop where
  is_moment : FOk P w K mg base 1 "is_moment" c_is_moment
theorem ok_is_stretch (T : FT fas fxs dfs K mg) (C : Cs_is_stretch P w K mg base) : FOk P w K mg base 2 "is_stretch" c_is_stretch :=
  T.fok 17 42 (ps := ["begin", "end"]) rfl rfl rfl rfl rfl (fun fd F => F.bindsN fun _ _ _ _ _ _ us hl => match us, hl with | [_, _], _ => rfl) fun fd F =>
  fnD (k := 1) F sc_is_stretch len_is_stretch (fun cdv A outer s H E hr tk => (nmS (f_is_stretch_eq) (ds_cons (d_if (dt_not (dt_val (dc C.is_moment hr tk (da_cons (dv 0) da_nil)))) (ds_one (d_ret d_bl)) ds_nil)
  (nmS (f_is_stretch_1_eq) (ds_one (d_ret (de_or (de_cmp op_isN opa_isN (dv 1) d_non (nomark _)) (de_one (de_and (dc C.is_moment hr tk (da_cons (dv 1) da_nil)) (de_one (de_cmp op_gt opa_gt (dv 1) (dv 0) (nomark _)))))))))))) pure_is_stretch
theorem sc_Sheet_tell : FnScope N_Sheet_tell ["self", "telling"] (defScope s_Sheet_tell) := ⟨rfl, rfl, rfl, by decide +kernel, rfl, by decide +kernel, by decide +kernel⟩
structure Cs_Sheet_tell (P : Program) (w : World) (K : PySem.W.Frag) (mg : Str → Option Value) (base : Heap) : Prop where
  is_name : FOk P w K mg base 1 "is_name" c_is_name
  is_stretch : FOk P w K mg base 2 "is_stretch" c_is_stretch
  m_take_in_3 : MOk P w K mg base 6 "take_in" T_take_in_3
theorem ok_Sheet_tell (T : FT fas fxs dfs K mg) (C : Cs_Sheet_tell P w K mg base) : BodyOk P w K mg base 7 "tell" "Sheet.tell" s_Sheet_tell ["self", "telling"] c_Sheet_tell := fun f fd F =>
  ⟨fnD (k := 6) F sc_Sheet_tell len_Sheet_tell (fun cdv A outer s H E hr tk => (nmS (f_Sheet_tell_eq) (ds_cons (d_for (passes_of rfl) rfl (di_any (de_sl (hh := false) (dv 1) (do_some d_int) (do_some (de_neg d_int)))) (dg_name (own := [2]) 2 sc_Sheet_tell.nd) (nmS (f_Sheet_tell_1_eq) (ds_one (d_if (dt_not (dt_val (dc C.is_name hr tk (da_cons (dv 2) da_nil)))) (ds_one (d_raise0 (T.xmk 10 11) rfl tk)) ds_nil))))
  (nmS (f_Sheet_tell_5_eq) (ds_cons (d_if (dt_not (dt_val (dc C.is_stretch hr tk (da_cons (de_ix (hu64 hr) (dv 1) (de_neg d_int)) (da_cons (de_ix (hu64 hr) (dv 1) (de_neg d_int)) da_nil))))) (ds_one (d_raise0 (T.xmk 15 16) rfl tk)) ds_nil)
  (nmS (f_Sheet_tell_4_eq) (ds_cons (d_expr (de_bm (pe_bm PySem.F.plainAttrs_list PySem.F.slot_list_append PySem.F.type_list_append mt_append (de_fld (Cs := UF_told_so) (dv 0) (all_cons ⟨T.cls 3, T.noat 4⟩ all_nil)) (da_cons (dv 1) da_nil)) ty_lst ma_append))
  (nmS (f_Sheet_tell_3_eq) (ds_cons (d_expr (dm C.m_take_in_3 hr tk (dv 0) (da_cons (dv 1) (da_cons (de_callB call_len ca_len (T.fr 7) (by decide +kernel) (da_cons (de_fld (Cs := UF_told_so) (dv 0) (all_cons ⟨T.cls 3, T.noat 4⟩ all_nil)) da_nil)) da_nil))))
  (nmS (f_Sheet_tell_2_eq) (ds_one (d_ret (de_callB call_len ca_len (T.fr 7) (by decide +kernel) (da_cons (de_fld (Cs := UF_told_so) (dv 0) (all_cons ⟨T.cls 3, T.noat 4⟩ all_nil)) da_nil)))))))))))))) pure_Sheet_tell, F.bindsN fun _ _ _ _ _ _ us hl => match us, hl with | [_, _], _ => rfl⟩
theorem sc_worth_in : FnScope N_worth_in ["line", "moment"] (defScope s_worth_in) := ⟨rfl, rfl, rfl, by decide +kernel, rfl, by decide +kernel, by decide +kernel⟩
theorem ok_worth_in (T : FT fas fxs dfs K mg) : FOk P w K mg base 1 "worth_in" c_worth_in :=
  T.fok 19 43 (ps := ["line", "moment"]) rfl rfl rfl rfl rfl (fun fd F => F.bindsN fun _ _ _ _ _ _ us hl => match us, hl with | [_, _], _ => rfl) fun fd F =>
  fnD (k := 0) F sc_worth_in len_worth_in (fun cdv A outer s H E hr tk => (nmS (f_worth_in_eq) (ds_cons (d_for (passes_of rfl) rfl (di_any (dv 0)) (dg_tup rfl (dgs_cons (dg_name (own := [2, 3, 4]) 2 sc_worth_in.nd) (dgs_cons (dg_name (own := [2, 3, 4]) 3 sc_worth_in.nd) (dgs_cons (dg_name (own := [2, 3, 4]) 4 sc_worth_in.nd) dgs_nil)))) (nmS (f_worth_in_1_eq) (ds_one (d_if (PW.pt (dw_and (dt_cmp op_le opa_le (dv 2) (dv 1) (nomark _)) (dw_and1 (PW.pt (dw_or (dt_cmp op_isN opa_isN (dv 3) d_non (nomark _)) (dw_or1 (dt_cmp op_lt opa_lt (dv 1) (dv 3) (nomark _)))))))) (ds_one (d_ret (dv 4))) ds_nil))))
  (nmS (f_worth_in_2_eq) (ds_one (d_ret d_non)))))) pure_worth_in
theorem sc_Sheet_worth_at : FnScope N_Sheet_worth_at ["self", "key", "moment", "knowing"] (defScope s_Sheet_worth_at) := ⟨rfl, rfl, rfl, by decide +kernel, rfl, by decide +kernel, by decide +kernel⟩
structure Cs_Sheet_worth_at (P : Program) (w : World) (K : PySem.W.Frag) (mg : Str → Option Value) (base : Heap) : Prop where
  is_moment : FOk P w K mg base 1 "is_moment" c_is_moment
  worth_in : FOk P w K mg base 1 "worth_in" c_worth_in
  m_line_of_3 : MOk P w K mg base 1 "line_of" T_line_of_3
  m_need_key_2 : MOk P w K mg base 2 "need_key" T_need_key_2
  m_need_knowing_2 : MOk P w K mg base 1 "need_knowing" T_need_knowing_2
theorem ok_Sheet_worth_at (T : FT fas fxs dfs K mg) (C : Cs_Sheet_worth_at P w K mg base) : BodyOk P w K mg base 3 "worth_at" "Sheet.worth_at" s_Sheet_worth_at ["self", "key", "moment", "knowing"] c_Sheet_worth_at := fun f fd F =>
  ⟨fnD (k := 2) F sc_Sheet_worth_at len_Sheet_worth_at (fun cdv A outer s H E hr tk => (nmS (f_Sheet_worth_at_eq) (ds_cons (d_expr (dm C.m_need_knowing_2 hr tk (dv 0) (da_cons (dv 3) da_nil)))
  (nmS (f_Sheet_worth_at_3_eq) (ds_cons (d_expr (dm C.m_need_key_2 hr tk (dv 0) (da_cons (dv 1) da_nil)))
  (nmS (f_Sheet_worth_at_2_eq) (ds_cons (d_if (dt_not (dt_val (dc C.is_moment hr tk (da_cons (dv 2) da_nil)))) (ds_one (d_raise0 (T.xmk 15 16) rfl tk)) ds_nil)
  (nmS (f_Sheet_worth_at_1_eq) (ds_one (d_ret (dc C.worth_in hr tk (da_cons (dm C.m_line_of_3 hr tk (dv 0) (da_cons (dv 1) (da_cons (dv 3) da_nil))) (da_cons (dv 2) da_nil))))))))))))) pure_Sheet_worth_at, F.bindsN fun _ _ _ _ _ _ us hl => match us, hl with | [_, _, _, _], _ => rfl⟩
theorem sc_all_at : FnScope N_all_at ["sheet", "moment", "knowing"] (defScope s_all_at) := ⟨rfl, rfl, rfl, by decide +kernel, rfl, by decide +kernel, by decide +kernel⟩
structure Cs_all_at (P : Program) (w : World) (K : PySem.W.Frag) (mg : Str → Option Value) (base : Heap) : Prop where
  is_moment : FOk P w K mg base 1 "is_moment" c_is_moment
  m_keys_at_2 : MOk P w K mg base 2 "keys_at" T_keys_at_2
  m_worth_at_4 : MOk P w K mg base 3 "worth_at" T_worth_at_4
theorem ok_all_at (T : FT fas fxs dfs K mg) (C : Cs_all_at P w K mg base) : FOk P w K mg base 4 "all_at" c_all_at :=
  T.fok 21 44 (ps := ["sheet", "moment", "knowing"]) rfl rfl rfl rfl rfl (fun fd F => F.bindsN fun _ _ _ _ _ _ us hl => match us, hl with | [_, _, _], _ => rfl) fun fd F =>
  fnD (k := 3) F sc_all_at len_all_at (fun cdv A outer s H E hr tk => (nmS (f_all_at_eq) (ds_cons (d_set 3 sc_all_at.nd (dm C.m_keys_at_2 hr tk (dv 0) (da_cons (dv 2) da_nil)))
  (nmS (f_all_at_6_eq) (ds_cons (d_if (dt_not (dt_val (dc C.is_moment hr tk (da_cons (dv 1) da_nil)))) (ds_one (d_raise0 (T.xmk 15 16) rfl tk)) ds_nil)
  (nmS (f_all_at_5_eq) (ds_cons (d_set 4 sc_all_at.nd (de_lst (hh := true) da_nil))
  (nmS (f_all_at_4_eq) (ds_cons (d_for (passes_of rfl) rfl (di_any (dv 3)) (dg_name (own := [5]) 5 sc_all_at.nd) (nmS (f_all_at_2_eq) (ds_cons (d_set 6 sc_all_at.nd (dm C.m_worth_at_4 hr tk (dv 0) (da_cons (dv 5) (da_cons (dv 1) (da_cons (dv 2) da_nil)))))
  (nmS (f_all_at_1_eq) (ds_one (d_if (dt_cmp op_notN opa_notN (dv 6) d_non (nomark _)) (ds_one (d_expr (de_bm (pe_bm PySem.F.plainAttrs_list PySem.F.slot_list_append PySem.F.type_list_append mt_append (dv 4) (da_cons (de_tup (da_cons (dv 5) (da_cons (dv 6) da_nil))) da_nil)) ty_lst ma_append))) ds_nil))))))
  (nmS (f_all_at_3_eq) (ds_one (d_ret (dv 4))))))))))))) pure_all_at
theorem sc_need_name : FnScope N_need_name ["thing"] (defScope s_need_name) := ⟨rfl, rfl, rfl, by decide +kernel, rfl, by decide +kernel, by decide +kernel⟩
structure Cs_need_name (P : Program) (w : World) (K : PySem.W.Frag) (mg : Str → Option Value) (base : Heap) : Prop where
  is_name : FOk P w K mg base 1 "is_name" c_is_name
theorem ok_need_name (T : FT fas fxs dfs K mg) (C : Cs_need_name P w K mg base) : FOk P w K mg base 2 "need_name" c_need_name :=
  T.fok 22 45 (ps := ["thing"]) rfl rfl rfl rfl rfl (fun fd F => F.bindsN fun _ _ _ _ _ _ us hl => match us, hl with | [_], _ => rfl) fun fd F =>
  fnD (k := 1) F sc_need_name len_need_name (fun cdv A outer s H E hr tk => (nmS (f_need_name_eq) (ds_one (d_if (dt_not (dt_val (dc C.is_name hr tk (da_cons (dv 0) da_nil)))) (ds_one (d_raise0 (T.xmk 10 11) rfl tk)) ds_nil)))) pure_need_name
theorem sc_when : FnScope N_when ["sheet", "key", "worth", "knowing"] (defScope s_when) := ⟨rfl, rfl, rfl, by decide +kernel, rfl, by decide +kernel, by decide +kernel⟩
structure Cs_when (P : Program) (w : World) (K : PySem.W.Frag) (mg : Str → Option Value) (base : Heap) : Prop where
  need_name : FOk P w K mg base 2 "need_name" c_need_name
  m_line_at_3 : MOk P w K mg base 3 "line_at" T_line_at_3
theorem ok_when (T : FT fas fxs dfs K mg) (C : Cs_when P w K mg base) : FOk P w K mg base 4 "when" c_when :=
  T.fok 23 46 (ps := ["sheet", "key", "worth", "knowing"]) rfl rfl rfl rfl rfl (fun fd F => F.bindsN fun _ _ _ _ _ _ us hl => match us, hl with | [_, _, _, _], _ => rfl) fun fd F =>
  fnD (k := 3) F sc_when len_when (fun cdv A outer s H E hr tk => (nmS (f_when_eq) (ds_cons (d_set 4 sc_when.nd (dm C.m_line_at_3 hr tk (dv 0) (da_cons (dv 1) (da_cons (dv 3) da_nil))))
  (nmS (f_when_2_eq) (ds_cons (d_expr (dc C.need_name hr tk (da_cons (dv 2) da_nil)))
  (nmS (f_when_1_eq) (ds_one (d_ret (de_lc (frz := false) (own := [("part", 5)]) rfl sc_when.nd (di_any (dv 4)) (blkOk_by (own := [("part", 5)]) (N := N_when) (sc := defScope s_when) (by decide +kernel)) (fun _ _ _ _ _ => (dg_name (own := [5]) 5 sc_when.nd)) (fun _ _ _ _ _ => (dts_one (dt_cmp (op_eqP (hu64 hr)) opa_eq (de_ix (hu64 hr) (dv 5) d_int) (dv 2) (nomark _)))) (fun _ _ _ _ _ => (de_tup (da_cons (de_ix (hu64 hr) (dv 5) d_int) (da_cons (de_ix (hu64 hr) (dv 5) d_int) da_nil))))))))))))) pure_when
theorem sc_who : FnScope N_who ["sheet", "worth", "knowing"] (defScope s_who) := ⟨rfl, rfl, rfl, by decide +kernel, rfl, by decide +kernel, by decide +kernel⟩
structure Cs_who (P : Program) (w : World) (K : PySem.W.Frag) (mg : Str → Option Value) (base : Heap) : Prop where
  need_name : FOk P w K mg base 2 "need_name" c_need_name
  when : FOk P w K mg base 4 "when" c_when
  m_keys_at_2 : MOk P w K mg base 2 "keys_at" T_keys_at_2
theorem ok_who (T : FT fas fxs dfs K mg) (C : Cs_who P w K mg base) : FOk P w K mg base 5 "who" c_who :=
  T.fok 24 47 (ps := ["sheet", "worth", "knowing"]) rfl rfl rfl rfl rfl (fun fd F => F.bindsN fun _ _ _ _ _ _ us hl => match us, hl with | [_, _, _], _ => rfl) fun fd F =>
  fnD (k := 4) F sc_who len_who (fun cdv A outer s H E hr tk => (nmS (f_who_eq) (ds_cons (d_set 3 sc_who.nd (dm C.m_keys_at_2 hr tk (dv 0) (da_cons (dv 2) da_nil)))
  (nmS (f_who_6_eq) (ds_cons (d_expr (dc C.need_name hr tk (da_cons (dv 1) da_nil)))
  (nmS (f_who_5_eq) (ds_cons (d_set 4 sc_who.nd (de_lst (hh := true) da_nil))
  (nmS (f_who_4_eq) (ds_cons (d_for (passes_of rfl) rfl (di_any (dv 3)) (dg_name (own := [5]) 5 sc_who.nd) (nmS (f_who_2_eq) (ds_one (d_for (passes_of rfl) rfl (di_any (dc C.when hr tk (da_cons (dv 0) (da_cons (dv 5) (da_cons (dv 1) (da_cons (dv 2) da_nil)))))) (dg_tup rfl (dgs_cons (dg_name (own := [6, 7]) 6 sc_who.nd) (dgs_cons (dg_name (own := [6, 7]) 7 sc_who.nd) dgs_nil))) (nmS (f_who_1_eq) (ds_one (d_expr (de_bm (pe_bm PySem.F.plainAttrs_list PySem.F.slot_list_append PySem.F.type_list_append mt_append (dv 4) (da_cons (de_tup (da_cons (dv 5) (da_cons (dv 6) (da_cons (dv 7) da_nil)))) da_nil)) ty_lst ma_append))))))))
  (nmS (f_who_3_eq) (ds_one (d_ret (dv 4))))))))))))) pure_who
theorem sc__law_called : FnScope N__law_called ["sheet", "way", "key", "worth", "moment", "knowing"] (defScope s__law_called) := ⟨rfl, rfl, rfl, by decide +kernel, rfl, by decide +kernel, by decide +kernel⟩
structure Cs__law_called (P : Program) (w : World) (K : PySem.W.Frag) (mg : Str → Option Value) (base : Heap) : Prop where
  all_at : FOk P w K mg base 4 "all_at" c_all_at
  when : FOk P w K mg base 4 "when" c_when
  who : FOk P w K mg base 5 "who" c_who
theorem ok__law_called (T : FT fas fxs dfs K mg) (C : Cs__law_called P w K mg base) : FOk P w K mg base 6 "_law_called" c__law_called :=
  T.fok 25 48 (ps := ["sheet", "way", "key", "worth", "moment", "knowing"]) rfl rfl rfl rfl rfl (fun fd F => F.bindsN fun _ _ _ _ _ _ us hl => match us, hl with | [_, _, _, _, _, _], _ => rfl) fun fd F =>
  fnD (k := 5) F sc__law_called len__law_called (fun cdv A outer s H E hr tk => (nmS (f__law_called_eq) (ds_one (d_if (dt_cmp (op_eqP (hu64 hr)) opa_eq (dv 1) d_int (nomark _)) (ds_one (d_expr (dc C.all_at hr tk (da_cons (dv 0) (da_cons (dv 4) (da_cons (dv 5) da_nil)))))) (ds_one (d_if (dt_cmp (op_eqP (hu64 hr)) opa_eq (dv 1) d_int (nomark _)) (ds_one (d_expr (dc C.when hr tk (da_cons (dv 0) (da_cons (dv 2) (da_cons (dv 3) (da_cons (dv 5) da_nil))))))) (ds_one (d_expr (dc C.who hr tk (da_cons (dv 0) (da_cons (dv 3) (da_cons (dv 5) da_nil)))))))))))) pure__law_called
theorem sc__law_asked : FnScope N__law_asked ["sheet", "way", "key", "worth", "moment", "knowing"] (defScope s__law_asked) := ⟨rfl, rfl, rfl, by decide +kernel, rfl, by decide +kernel, by decide +kernel⟩
structure Cs__law_asked (P : Program) (w : World) (K : PySem.W.Frag) (mg : Str → Option Value) (base : Heap) : Prop where
  _law_called : FOk P w K mg base 6 "_law_called" c__law_called
theorem ok__law_asked (T : FT fas fxs dfs K mg) (C : Cs__law_asked P w K mg base) : FOk P w K mg base 7 "_law_asked" c__law_asked :=
  T.fok 26 49 (ps := ["sheet", "way", "key", "worth", "moment", "knowing"]) rfl rfl rfl rfl rfl (fun fd F => F.bindsN fun _ _ _ _ _ _ us hl => match us, hl with | [_, _, _, _, _, _], _ => rfl) fun fd F =>
  fnD (k := 6) F sc__law_asked len__law_asked (fun cdv A outer s H E hr tk => (nmS (f__law_asked_eq) (ds_cons (d_set 6 sc__law_asked.nd (de_lst (hh := false) (da_cons d_str (da_cons d_bl (da_cons d_bl da_nil)))))
  (nmS (f__law_asked_9_eq) (ds_cons (d_tryM rfl rfl sc__law_asked.nd rfl rfl tk (fun W pn xe tk2 po => (nmS (f__law_asked_1_eq) (ds_one (d_expr (dc C._law_called hr tk2 (da_cons (dv 0) (da_cons (dv 1) (da_cons (dv 2) (da_cons (dv 3) (da_cons (dv 4) (da_cons (dv 5) da_nil))))))))))) (.cons (["NoKnowing"] : List Str) (["NoName", "NoStretch"] : List Str) (T.gl 8) (all_cons (T.exm 29) all_nil) (all_cons (T.exm 31) (all_cons (T.exm 30) all_nil)) (fun a oe x pn hx Hd => pss_eq (suit_here hx) (nmS (f__law_asked_3_eq a x) (ds_cons (d_set 8 sc__law_asked.nd (de_isEs (ys := (["Broken", "Forgotten", "NoFit", "NoLog", "NoName", "NoRow", "NoSheet", "NoStretch"] : List Str)) (f := subX x.cls) (memK1 hx (p := fun c => ExcC K (He.ga K c)) (T.isc 8)) Hd (fun y hy => (memK1 hx (p := fun c => ∀ y ∈ (["Broken", "Forgotten", "NoFit", "NoLog", "NoName", "NoRow", "NoSheet", "NoStretch"] : List Str), PySem.W.kitOne K (.ref (He.ga K c)) (.ref (He.ga K y)) = some (subX c y)) (all_cons (T.one 7) (all_cons (T.one 6) (all_cons (T.one 5) (all_cons (T.one 4) (all_cons (T.one 3) (all_cons (T.one 2) (all_cons (T.one 1) (all_cons (T.one 0) (all_nil)))))))))) y hy) (T.fr 13) (by decide +kernel) (dv 7) (da_cons (de_gb (T.gl 26)) (da_cons (de_gb (T.gl 25)) (da_cons (de_gb (T.gl 24)) (da_cons (de_gb (T.gl 23)) (da_cons (de_gb (T.gl 10)) (da_cons (de_gb (T.gl 22)) (da_cons (de_gb (T.gl 21)) (da_cons (de_gb (T.gl 15)) da_nil)))))))) (by decide)))
  (nmS (f__law_asked_2_eq a x) (ds_one (d_set 6 sc__law_asked.nd (de_lst (hh := false) (da_cons d_str (da_cons (de_and (de_callB (call_isE (memK1 hx (p := fun c => ExcC K (He.ga K c)) (T.isc 8)) Hd.z Hd.f) (ca_isE (memK1 hx (p := fun c => PySem.W.kitOne K (.ref (He.ga K c)) (.ref (He.ga K "TimesError")) = some (subX c "TimesError")) (T.one 9))) (T.fr 13) (by decide +kernel) (da_cons (dv 7) (da_cons (de_gb (T.gl 27)) da_nil))) (de_one (de_callB (call_isE (memK1 hx (p := fun c => ExcC K (He.ga K c)) (T.isc 8)) Hd.z Hd.f) (ca_isEt (memK1 hx (p := fun c => PySem.W.kitOne K (.ref (He.ga K c)) (.type "ValueError") = some true) (T.oneT 10))) (T.fr 13) (by decide +kernel) (da_cons (dv 7) (da_cons (d_type (T.fr 28) (by decide +kernel)) da_nil))))) (da_cons (dv 8) da_nil)))))))))) (.cons (["NoName"] : List Str) (["NoStretch"] : List Str) (T.gl 10) (all_cons (T.exm 32) all_nil) (all_cons (T.exm 33) all_nil) (fun a oe x pn hx Hd => pss_eq ((suit_skip hx).trans (suit_here hx)) (nmS (f__law_asked_5_eq a x) (ds_cons (d_set 8 sc__law_asked.nd (de_isEs (ys := (["Broken", "Forgotten", "NoFit", "NoLog", "NoKnowing", "NoRow", "NoSheet", "NoStretch"] : List Str)) (f := subX x.cls) (memK1 hx (p := fun c => ExcC K (He.ga K c)) (T.isc 19)) Hd (fun y hy => (memK1 hx (p := fun c => ∀ y ∈ (["Broken", "Forgotten", "NoFit", "NoLog", "NoKnowing", "NoRow", "NoSheet", "NoStretch"] : List Str), PySem.W.kitOne K (.ref (He.ga K c)) (.ref (He.ga K y)) = some (subX c y)) (all_cons (T.one 18) (all_cons (T.one 17) (all_cons (T.one 16) (all_cons (T.one 15) (all_cons (T.one 14) (all_cons (T.one 13) (all_cons (T.one 12) (all_cons (T.one 11) (all_nil)))))))))) y hy) (T.fr 13) (by decide +kernel) (dv 7) (da_cons (de_gb (T.gl 26)) (da_cons (de_gb (T.gl 25)) (da_cons (de_gb (T.gl 24)) (da_cons (de_gb (T.gl 23)) (da_cons (de_gb (T.gl 8)) (da_cons (de_gb (T.gl 22)) (da_cons (de_gb (T.gl 21)) (da_cons (de_gb (T.gl 15)) da_nil)))))))) (by decide)))
  (nmS (f__law_asked_4_eq a x) (ds_one (d_set 6 sc__law_asked.nd (de_lst (hh := false) (da_cons d_str (da_cons (de_and (de_callB (call_isE (memK1 hx (p := fun c => ExcC K (He.ga K c)) (T.isc 19)) Hd.z Hd.f) (ca_isE (memK1 hx (p := fun c => PySem.W.kitOne K (.ref (He.ga K c)) (.ref (He.ga K "TimesError")) = some (subX c "TimesError")) (T.one 20))) (T.fr 13) (by decide +kernel) (da_cons (dv 7) (da_cons (de_gb (T.gl 27)) da_nil))) (de_one (de_callB (call_isE (memK1 hx (p := fun c => ExcC K (He.ga K c)) (T.isc 19)) Hd.z Hd.f) (ca_isEt (memK1 hx (p := fun c => PySem.W.kitOne K (.ref (He.ga K c)) (.type "ValueError") = some true) (T.oneT 21))) (T.fr 13) (by decide +kernel) (da_cons (dv 7) (da_cons (d_type (T.fr 28) (by decide +kernel)) da_nil))))) (da_cons (dv 8) da_nil)))))))))) (.cons (["NoStretch"] : List Str) ([] : List Str) (T.gl 15) (all_cons (T.exm 34) all_nil) all_nil (fun a oe x pn hx Hd => pss_eq ((suit_skip hx).trans ((suit_skip hx).trans (suit_here hx))) (nmS (f__law_asked_7_eq a x) (ds_cons (d_set 8 sc__law_asked.nd (de_isEs (ys := (["Broken", "Forgotten", "NoFit", "NoLog", "NoName", "NoRow", "NoSheet", "NoKnowing"] : List Str)) (f := subX x.cls) (memK1 hx (p := fun c => ExcC K (He.ga K c)) (T.isc 30)) Hd (fun y hy => (memK1 hx (p := fun c => ∀ y ∈ (["Broken", "Forgotten", "NoFit", "NoLog", "NoName", "NoRow", "NoSheet", "NoKnowing"] : List Str), PySem.W.kitOne K (.ref (He.ga K c)) (.ref (He.ga K y)) = some (subX c y)) (all_cons (T.one 29) (all_cons (T.one 28) (all_cons (T.one 27) (all_cons (T.one 26) (all_cons (T.one 25) (all_cons (T.one 24) (all_cons (T.one 23) (all_cons (T.one 22) (all_nil)))))))))) y hy) (T.fr 13) (by decide +kernel) (dv 7) (da_cons (de_gb (T.gl 26)) (da_cons (de_gb (T.gl 25)) (da_cons (de_gb (T.gl 24)) (da_cons (de_gb (T.gl 23)) (da_cons (de_gb (T.gl 10)) (da_cons (de_gb (T.gl 22)) (da_cons (de_gb (T.gl 21)) (da_cons (de_gb (T.gl 8)) da_nil)))))))) (by decide)))
  (nmS (f__law_asked_6_eq a x) (ds_one (d_set 6 sc__law_asked.nd (de_lst (hh := false) (da_cons d_str (da_cons (de_and (de_callB (call_isE (memK1 hx (p := fun c => ExcC K (He.ga K c)) (T.isc 30)) Hd.z Hd.f) (ca_isE (memK1 hx (p := fun c => PySem.W.kitOne K (.ref (He.ga K c)) (.ref (He.ga K "TimesError")) = some (subX c "TimesError")) (T.one 31))) (T.fr 13) (by decide +kernel) (da_cons (dv 7) (da_cons (de_gb (T.gl 27)) da_nil))) (de_one (de_callB (call_isE (memK1 hx (p := fun c => ExcC K (He.ga K c)) (T.isc 30)) Hd.z Hd.f) (ca_isEt (memK1 hx (p := fun c => PySem.W.kitOne K (.ref (He.ga K c)) (.type "ValueError") = some true) (T.oneT 32))) (T.fr 13) (by decide +kernel) (da_cons (dv 7) (da_cons (d_type (T.fr 28) (by decide +kernel)) da_nil))))) (da_cons (dv 8) da_nil)))))))))) .nil))))
  (nmS (f__law_asked_8_eq) (ds_one (d_ret (dv 6))))))))) pure__law_asked
theorem sc__law_cell_at : FnScope N__law_cell_at ["script", "k"] (defScope s__law_cell_at) := ⟨rfl, rfl, rfl, by decide +kernel, rfl, by decide +kernel, by decide +kernel⟩
theorem ok__law_cell_at (T : FT fas fxs dfs K mg) : FOk P w K mg base 1 "_law_cell_at" c__law_cell_at :=
  T.fok 27 50 (ps := ["script", "k"]) rfl rfl rfl rfl rfl (fun fd F => F.bindsN fun _ _ _ _ _ _ us hl => match us, hl with | [_, _], _ => rfl) fun fd F =>
  fnD (k := 0) F sc__law_cell_at len__law_cell_at (fun cdv A outer s H E hr tk => (nmS (f__law_cell_at_eq) (ds_cons (d_if (dt_cmp op_lt opa_lt (dv 1) (de_callB call_len ca_len (T.fr 7) (by decide +kernel) (da_cons (dv 0) da_nil)) (nomark _)) (ds_one (d_ret (de_ix (hu64 hr) (dv 0) (dv 1)))) ds_nil)
  (nmS (f__law_cell_at_1_eq) (ds_one (d_ret d_int)))))) pure__law_cell_at
theorem sc__law_due : FnScope N__law_due ["way", "goods"] (defScope s__law_due) := ⟨rfl, rfl, rfl, by decide +kernel, rfl, by decide +kernel, by decide +kernel⟩
theorem ok__law_due (T : FT fas fxs dfs K mg) : FOk P w K mg base 1 "_law_due" c__law_due :=
  T.fok 28 51 (ps := ["way", "goods"]) rfl rfl rfl rfl rfl (fun fd F => F.bindsN fun _ _ _ _ _ _ us hl => match us, hl with | [_, _], _ => rfl) fun fd F =>
  fnD (k := 0) F sc__law_due len__law_due (fun cdv A outer s H E hr tk => (nmS (f__law_due_eq) (ds_cons (d_if (dt_not (dt_val (de_ix (hu64 hr) (dv 1) d_int))) (ds_one (d_ret (de_lst (hh := false) (da_cons d_str (da_cons d_bl (da_cons d_bl da_nil)))))) ds_nil)
  (nmS (f__law_due_3_eq) (ds_cons (d_if (PW.pt (dw_or (PW.pt (dw_and (dt_cmp (op_eqP (hu64 hr)) opa_eq (dv 0) d_int (nomark _)) (dw_and1 (dt_not (dt_val (de_ix (hu64 hr) (dv 1) d_int)))))) (dw_or1 (PW.pt (dw_and (dt_cmp op_gt opa_gt (dv 0) d_int (nomark _)) (dw_and1 (dt_not (dt_val (de_ix (hu64 hr) (dv 1) d_int))))))))) (ds_one (d_ret (de_lst (hh := false) (da_cons d_str (da_cons d_bl (da_cons d_bl da_nil)))))) ds_nil)
  (nmS (f__law_due_2_eq) (ds_cons (d_if (PW.pt (dw_and (dt_cmp (op_eqP (hu64 hr)) opa_eq (dv 0) d_int (nomark _)) (dw_and1 (dt_not (dt_val (de_ix (hu64 hr) (dv 1) d_int)))))) (ds_one (d_ret (de_lst (hh := false) (da_cons d_str (da_cons d_bl (da_cons d_bl da_nil)))))) ds_nil)
  (nmS (f__law_due_1_eq) (ds_one (d_ret (de_lst (hh := false) (da_cons d_str (da_cons d_bl (da_cons d_bl da_nil)))))))))))))) pure__law_due
theorem sc__law_by_digits : FnScope N__law_by_digits ["cell", "keys", "worths"] (defScope s__law_by_digits) := ⟨rfl, rfl, rfl, by decide +kernel, rfl, by decide +kernel, by decide +kernel⟩
theorem ok__law_by_digits (T : FT fas fxs dfs K mg) : FOk P w K mg base 1 "_law_by_digits" c__law_by_digits :=
  T.fok 29 52 (ps := ["cell", "keys", "worths"]) rfl rfl rfl rfl rfl (fun fd F => F.bindsN fun _ _ _ _ _ _ us hl => match us, hl with | [_, _, _], _ => rfl) fun fd F =>
  fnD (k := 0) F sc__law_by_digits len__law_by_digits (fun cdv A outer s H E hr tk => (nmS (f__law_by_digits_eq) (ds_cons (d_set 3 sc__law_by_digits.nd (de_bin op_mod opa_mod (de_bin op_fdivW opa_div (dv 0) d_int) (de_bin op_addAll (opa_add false) (de_bin op_pow opa_pow d_int d_int) d_int)))
  (nmS (f__law_by_digits_5_eq) (ds_cons (d_set 4 sc__law_by_digits.nd (de_bin op_addAll (opa_add false) (dv 3) (de_bin op_mod opa_mod (de_bin op_fdivW opa_div (dv 0) d_int) d_int)))
  (nmS (f__law_by_digits_4_eq) (ds_cons (d_if (PW.pt (dw_and (dt_cmp (op_eqP (hu64 hr)) opa_eq (dv 4) (de_bin op_addAll (opa_add false) (dv 3) d_int) (nomark _)) (dw_and1 (dt_cmp op_lt opa_lt (dv 3) (de_bin op_pow opa_pow d_int d_int) (nomark _))))) (ds_one (d_set 4 sc__law_by_digits.nd (de_bin op_addAll (opa_add false) (de_bin op_addAll (opa_add false) (dv 3) d_int) (de_bin op_mod opa_mod (de_bin op_fdivW opa_div (de_bin op_fdivW opa_div (dv 0) d_int) (de_bin op_addAll (opa_add false) (de_bin op_pow opa_pow d_int d_int) d_int)) (de_bin op_sub opa_sub (de_bin op_pow opa_pow d_int d_int) (dv 3)))))) ds_nil)
  (nmS (f__law_by_digits_3_eq) (ds_cons (d_if (PW.pt (dw_or (dt_cmp (op_eqP (hu64 hr)) opa_eq (dv 4) (dv 3) (nomark _)) (dw_or1 (dt_cmp op_gt opa_gt (dv 4) (de_bin op_pow opa_pow d_int d_int) (nomark _))))) (ds_one (d_set 4 sc__law_by_digits.nd d_non)) ds_nil)
  (nmS (f__law_by_digits_2_eq) (ds_cons (d_if (dt_cmp (op_eqP (hu64 hr)) opa_eq (de_bin op_mod opa_mod (de_bin op_fdivW opa_div (dv 0) d_int) d_int) d_int (nomark _)) (ds_one (d_ret (de_tup (da_cons d_str (da_cons (de_ix (hu64 hr) (dv 1) (de_bin op_mod opa_mod (dv 0) d_int)) (da_cons (dv 3) (da_cons (dv 4) da_nil))))))) ds_nil)
  (nmS (f__law_by_digits_1_eq) (ds_one (d_ret (de_tup (da_cons d_str (da_cons (de_ix (hu64 hr) (dv 1) (de_bin op_mod opa_mod (dv 0) d_int)) (da_cons (de_ix (hu64 hr) (dv 2) (de_bin op_mod opa_mod (de_bin op_fdivW opa_div (dv 0) d_int) d_int)) (da_cons (dv 3) (da_cons (dv 4) da_nil)))))))))))))))))))) pure__law_by_digits
theorem sc__law_tumbled : FnScope N__law_tumbled ["cell", "k"] (defScope s__law_tumbled) := ⟨rfl, rfl, rfl, by decide +kernel, rfl, by decide +kernel, by decide +kernel⟩
theorem ok__law_tumbled (T : FT fas fxs dfs K mg) : FOk P w K mg base 1 "_law_tumbled" c__law_tumbled :=
  T.fok 30 53 (ps := ["cell", "k"]) rfl rfl rfl rfl rfl (fun fd F => F.bindsN fun _ _ _ _ _ _ us hl => match us, hl with | [_, _], _ => rfl) fun fd F =>
  fnD (k := 0) F sc__law_tumbled len__law_tumbled (fun cdv A outer s H E hr tk => (nmS (f__law_tumbled_eq) (ds_cons (d_set 2 sc__law_tumbled.nd (de_bin op_mod opa_mod (de_bin op_addAll (opa_add false) (de_bin op_mod opa_mod (dv 0) d_int) (de_bin op_mul opa_mul d_int (de_bin op_addAll (opa_add false) (dv 1) d_int))) d_int))
  (nmS (f__law_tumbled_2_eq) (ds_cons (d_set 2 sc__law_tumbled.nd (de_bin op_addAll (opa_add false) (de_bin op_mod opa_mod (de_bin op_mul opa_mul (dv 2) (dv 2)) d_int) (de_bin op_mul opa_mul d_int (dv 1))))
  (nmS (f__law_tumbled_1_eq) (ds_one (d_ret (de_bin op_mod opa_mod (de_bin op_mul opa_mul (dv 2) (de_bin op_addAll (opa_add false) (dv 2) d_int)) d_int))))))))) pure__law_tumbled
theorem sc__law_stretch : FnScope N__law_stretch ["cell"] (defScope s__law_stretch) := ⟨rfl, rfl, rfl, by decide +kernel, rfl, by decide +kernel, by decide +kernel⟩
structure Cs__law_stretch (P : Program) (w : World) (K : PySem.W.Frag) (mg : Str → Option Value) (base : Heap) : Prop where
  _law_tumbled : FOk P w K mg base 1 "_law_tumbled" c__law_tumbled
theorem ok__law_stretch (T : FT fas fxs dfs K mg) (C : Cs__law_stretch P w K mg base) : FOk P w K mg base 2 "_law_stretch" c__law_stretch :=
  T.fok 31 54 (ps := ["cell"]) rfl rfl rfl rfl rfl (fun fd F => F.bindsN fun _ _ _ _ _ _ us hl => match us, hl with | [_], _ => rfl) fun fd F =>
  fnD (k := 1) F sc__law_stretch len__law_stretch (fun cdv A outer s H E hr tk => (nmS (f__law_stretch_eq) (ds_cons (d_set 1 sc__law_stretch.nd (de_bin op_mod opa_mod (dc C._law_tumbled hr tk (da_cons (dv 0) (da_cons d_int da_nil))) d_int))
  (nmS (f__law_stretch_6_eq) (ds_cons (d_set 2 sc__law_stretch.nd (de_bin op_mod opa_mod (dc C._law_tumbled hr tk (da_cons (dv 0) (da_cons d_int da_nil))) d_int))
  (nmS (f__law_stretch_5_eq) (ds_cons (d_if (dt_cmp (op_eqP (hu64 hr)) opa_eq (dv 1) d_int (nomark _)) (ds_one (d_set 2 sc__law_stretch.nd (de_bin op_mod opa_mod (de_bin op_mul opa_mul (dc C._law_tumbled hr tk (da_cons (dv 0) (da_cons d_int da_nil))) d_int) (de_bin op_addAll (opa_add false) (de_bin op_pow opa_pow d_int d_int) d_int)))) ds_nil)
  (nmS (f__law_stretch_4_eq) (ds_cons (d_if (dt_cmp (op_eqP (hu64 hr)) opa_eq (dv 1) d_int (nomark _)) (ds_one (d_set 2 sc__law_stretch.nd (de_ix (hu64 hr) (de_lst (hh := false) (da_cons (de_bin op_pow opa_pow d_int d_int) (da_cons (de_bin op_sub opa_sub (de_bin op_pow opa_pow d_int d_int) d_int) (da_cons d_int (da_cons (de_bin op_sub opa_sub (de_bin op_pow opa_pow d_int d_int) d_int) da_nil))))) (de_bin op_mod opa_mod (dv 2) d_int)))) ds_nil)
  (nmS (f__law_stretch_3_eq) (ds_cons (d_if (PW.pt (dw_or (dt_cmp (op_eqP (hu64 hr)) opa_eq (de_bin op_mod opa_mod (dc C._law_tumbled hr tk (da_cons (dv 0) (da_cons d_int da_nil))) d_int) d_int (nomark _)) (dw_or1 (dt_cmp (op_eqP (hu64 hr)) opa_eq (dv 2) (de_bin op_pow opa_pow d_int d_int) (nomark _))))) (ds_one (d_ret (de_tup (da_cons (dv 2) (da_cons d_non da_nil))))) ds_nil)
  (nmS (f__law_stretch_2_eq) (ds_cons (d_if (dt_cmp (op_eqP (hu64 hr)) opa_eq (de_bin op_mod opa_mod (dc C._law_tumbled hr tk (da_cons (dv 0) (da_cons d_int da_nil))) d_int) d_int (nomark _)) (ds_one (d_ret (de_tup (da_cons (dv 2) (da_cons (de_bin op_addAll (opa_add false) (de_bin op_addAll (opa_add false) (dv 2) d_int) (de_bin op_mod opa_mod (de_bin op_mul opa_mul (dc C._law_tumbled hr tk (da_cons (dv 0) (da_cons d_int da_nil))) d_int) (de_bin op_sub opa_sub (de_bin op_pow opa_pow d_int d_int) (dv 2)))) da_nil))))) ds_nil)
  (nmS (f__law_stretch_1_eq) (ds_one (d_ret (de_tup (da_cons (dv 2) (da_cons (de_callB (call_min2 rfl) ca_min (T.fr 18) (by decide +kernel) (da_cons (de_bin op_pow opa_pow d_int d_int) (da_cons (de_bin op_addAll (opa_add false) (de_bin op_addAll (opa_add false) (dv 2) d_int) (de_bin op_mod opa_mod (dc C._law_tumbled hr tk (da_cons (dv 0) (da_cons d_int da_nil))) d_int)) da_nil))) da_nil))))))))))))))))))) pure__law_stretch
theorem sc__law_telling : FnScope N__law_telling ["cell", "keys", "worths"] (defScope s__law_telling) := ⟨rfl, rfl, rfl, by decide +kernel, rfl, by decide +kernel, by decide +kernel⟩
structure Cs__law_telling (P : Program) (w : World) (K : PySem.W.Frag) (mg : Str → Option Value) (base : Heap) : Prop where
  _law_by_digits : FOk P w K mg base 1 "_law_by_digits" c__law_by_digits
  _law_stretch : FOk P w K mg base 2 "_law_stretch" c__law_stretch
  _law_tumbled : FOk P w K mg base 1 "_law_tumbled" c__law_tumbled
theorem ok__law_telling (T : FT fas fxs dfs K mg) (C : Cs__law_telling P w K mg base) : FOk P w K mg base 3 "_law_telling" c__law_telling :=
  T.fok 32 55 (ps := ["cell", "keys", "worths"]) rfl rfl rfl rfl rfl (fun fd F => F.bindsN fun _ _ _ _ _ _ us hl => match us, hl with | [_, _, _], _ => rfl) fun fd F =>
  fnD (k := 2) F sc__law_telling len__law_telling (fun cdv A outer s H E hr tk => (nmS (f__law_telling_eq) (ds_cons (d_if (dt_cmp (op_eqP (hu64 hr)) opa_eq (de_bin op_mod opa_mod (dv 0) d_int) d_int (nomark _)) (ds_one (d_ret (dc C._law_by_digits hr tk (da_cons (de_bin op_fdivW opa_div (dv 0) d_int) (da_cons (dv 1) (da_cons (dv 2) da_nil)))))) ds_nil)
  (nmS (f__law_telling_4_eq) (ds_cons (d_set 3 sc__law_telling.nd (de_ix (hu64 hr) (dv 1) (de_bin op_mod opa_mod (dc C._law_tumbled hr tk (da_cons (dv 0) (da_cons d_int da_nil))) d_int)))
  (nmS (f__law_telling_3_eq) (ds_cons (d_asg (dc C._law_stretch hr tk (da_cons (dv 0) da_nil)) (dg_tup rfl (dgs_cons (dg_name (own := [4, 5]) 4 sc__law_telling.nd) (dgs_cons (dg_name (own := [4, 5]) 5 sc__law_telling.nd) dgs_nil))))
  (nmS (f__law_telling_2_eq) (ds_cons (d_if (dt_cmp (op_eqP (hu64 hr)) opa_eq (de_bin op_mod opa_mod (dc C._law_tumbled hr tk (da_cons (dv 0) (da_cons d_int da_nil))) d_int) d_int (nomark _)) (ds_one (d_ret (de_tup (da_cons d_str (da_cons (dv 3) (da_cons (dv 4) (da_cons (dv 5) da_nil))))))) ds_nil)
  (nmS (f__law_telling_1_eq) (ds_one (d_ret (de_tup (da_cons d_str (da_cons (dv 3) (da_cons (de_ix (hu64 hr) (dv 2) (de_bin op_mod opa_mod (dc C._law_tumbled hr tk (da_cons (dv 0) (da_cons d_int da_nil))) d_int)) (da_cons (dv 4) (da_cons (dv 5) da_nil)))))))))))))))))) pure__law_telling
theorem sc__law_words : FnScope N__law_words ["cell"] (defScope s__law_words) := ⟨rfl, rfl, rfl, by decide +kernel, rfl, by decide +kernel, by decide +kernel⟩
structure Cs__law_words (P : Program) (w : World) (K : PySem.W.Frag) (mg : Str → Option Value) (base : Heap) : Prop where
  _law_tumbled : FOk P w K mg base 1 "_law_tumbled" c__law_tumbled
theorem ok__law_words (T : FT fas fxs dfs K mg) (C : Cs__law_words P w K mg base) : FOk P w K mg base 2 "_law_words" c__law_words :=
  T.fok 33 56 (ps := ["cell"]) rfl rfl rfl rfl rfl (fun fd F => F.bindsN fun _ _ _ _ _ _ us hl => match us, hl with | [_], _ => rfl) fun fd F =>
  fnD (k := 1) F sc__law_words len__law_words (fun cdv A outer s H E hr tk => (nmS (f__law_words_eq) (ds_cons (d_set 1 sc__law_words.nd d_str)
  (nmS (f__law_words_6_eq) (ds_cons (d_set 2 sc__law_words.nd (de_bm (pe_bm PySem.F.plainAttrs_str PySem.F.slot_str_join PySem.F.type_str_join mt_join d_str (da_cons (de_lc (frz := true) (own := [("k", 7)]) rfl sc__law_words.nd (di_range1 (T.fr 0) (da_cons (de_bin op_addAll (opa_add false) d_int (de_bin op_mod opa_mod (dc C._law_tumbled hr tk (da_cons (dv 0) (da_cons d_int da_nil))) d_int)) da_nil)) (blkOk_by (own := [("k", 7)]) (N := N__law_words) (sc := defScope s__law_words) (by decide +kernel)) (fun _ _ _ _ _ => (dg_name (own := [7]) 7 sc__law_words.nd)) (fun _ _ _ _ _ => dts_nil) (fun _ _ _ _ _ => (de_ix (hu64 hr) (dv 1) (de_bin op_mod opa_mod (dc C._law_tumbled hr takes0 (da_cons (dv 0) (da_cons (dv 7) da_nil))) d_int)))) da_nil)) ty_str ma_join))
  (nmS (f__law_words_5_eq) (ds_cons (d_set 3 sc__law_words.nd (de_bin op_mod opa_mod (dc C._law_tumbled hr tk (da_cons (dv 0) (da_cons d_int da_nil))) (de_callB call_len ca_len (T.fr 7) (by decide +kernel) (da_cons (dv 2) da_nil))))
  (nmS (f__law_words_4_eq) (ds_cons (d_set 4 sc__law_words.nd (de_bin op_mod opa_mod (dc C._law_tumbled hr tk (da_cons (dv 0) (da_cons d_int da_nil))) d_int))
  (nmS (f__law_words_3_eq) (ds_cons (d_set 5 sc__law_words.nd (de_ix (hu64 hr) (dv 1) (de_bin op_mod opa_mod (de_bin op_addAll (opa_add false) (de_bin op_addAll (opa_add false) (dv 4) d_int) (de_bin op_mod opa_mod (dc C._law_tumbled hr tk (da_cons (dv 0) (da_cons d_int da_nil))) d_int)) d_int)))
  (nmS (f__law_words_2_eq) (ds_cons (d_set 6 sc__law_words.nd (de_ix (hu64 hr) (dv 1) (de_bin op_mod opa_mod (de_bin op_addAll (opa_add false) (de_bin op_addAll (opa_add false) (de_bm (pe_bm PySem.F.plainAttrs_str PySem.F.slot_str_find PySem.F.type_str_find mt_find (dv 1) (da_cons (de_ix (hu64 hr) (dv 2) (dv 3)) da_nil)) ty_str ma_find) d_int) (de_bin op_mod opa_mod (dc C._law_tumbled hr tk (da_cons (dv 0) (da_cons d_int da_nil))) d_int)) d_int)))
  (nmS (f__law_words_1_eq) (ds_one (d_ret (de_lst (hh := false) (da_cons (dv 2) (da_cons (de_bin op_addAll (opa_add false) (dv 2) (dv 5)) (da_cons (de_bin op_addAll (opa_add false) (de_ix (hu64 hr) (dv 1) (dv 4)) (dv 2)) (da_cons (de_bin op_addAll (opa_add false) (de_bin op_addAll (opa_add false) (de_sl (hh := false) (dv 2) do_none (do_some (dv 3))) (dv 6)) (de_sl (hh := false) (dv 2) (do_some (de_bin op_addAll (opa_add false) (dv 3) d_int)) do_none)) da_nil))))))))))))))))))))) pure__law_words
theorem sc_law : FnScope N_law ["script"] (defScope s_law) := ⟨rfl, rfl, rfl, by decide +kernel, rfl, by decide +kernel, by decide +kernel⟩
structure Cs_law (P : Program) (w : World) (K : PySem.W.Frag) (mg : Str → Option Value) (base : Heap) : Prop where
  _law_asked : FOk P w K mg base 7 "_law_asked" c__law_asked
  _law_cell_at : FOk P w K mg base 1 "_law_cell_at" c__law_cell_at
  _law_due : FOk P w K mg base 1 "_law_due" c__law_due
  _law_telling : FOk P w K mg base 3 "_law_telling" c__law_telling
  _law_tumbled : FOk P w K mg base 1 "_law_tumbled" c__law_tumbled
  _law_words : FOk P w K mg base 2 "_law_words" c__law_words
  m_keys_at_2 : MOk P w K mg base 2 "keys_at" T_keys_at_2
  m_knowings_1 : MOk P w K mg base 1 "knowings" T_knowings_1
  m_line_at_3 : MOk P w K mg base 3 "line_at" T_line_at_3
  m_tell_2 : MOk P w K mg base 7 "tell" T_tell_2
  k_Sheet : CMk P w K mg base 1 "Sheet" c_Sheet___init__
theorem ok_all (T : FT fas fxs dfs K mg) (fd : FuncData) (F : FunD K "law" "law" (defArgs s_law) (defBody s_law) (defScope s_law) [] [] (He.ga K "law") fd) : FnOk P w K mg base (L2.CX P w) 8 (He.ga K "law") fd ["script"] (spOf K cLaw) := by
  have h_Sheet___init__ := ok_Sheet___init__ (P := P) (w := w) (base := base) T
  have hk_Sheet : CMk P w K mg base 1 "Sheet" c_Sheet___init__ := T.cmk 0 58 59 h_Sheet___init__
  have h_Sheet_keys_told := ok_Sheet_keys_told (P := P) (w := w) (base := base) T
  have hm_keys_told_1 : MOk P w K mg base 1 "keys_told" T_keys_told_1 := (.cons (.cons (T.mok 1 3 60 h_Sheet_keys_told) .nil) .nil)
  have h_Sheet_line_of := ok_Sheet_line_of (P := P) (w := w) (base := base) T
  have hm_line_of_3 : MOk P w K mg base 1 "line_of" T_line_of_3 := (.cons (.cons (T.mok 2 3 61 h_Sheet_line_of) .nil) .nil)
  have h_Sheet_need_knowing := ok_Sheet_need_knowing (P := P) (w := w) (base := base) T
  have hm_need_knowing_2 : MOk P w K mg base 1 "need_knowing" T_need_knowing_2 := (.cons (.cons (T.mok 3 3 62 h_Sheet_need_knowing) .nil) .nil)
  have h_Sheet_keys_at := ok_Sheet_keys_at (P := P) (w := w) (base := base) T ⟨hm_keys_told_1, hm_line_of_3, hm_need_knowing_2⟩
  have hm_keys_at_2 : MOk P w K mg base 2 "keys_at" T_keys_at_2 := (.cons (.cons (T.mok 4 3 63 h_Sheet_keys_at) .nil) .nil)
  have h_Sheet_knowings := ok_Sheet_knowings (P := P) (w := w) (base := base) T
  have hm_knowings_1 : MOk P w K mg base 1 "knowings" T_knowings_1 := (.cons (.cons (T.mok 5 3 64 h_Sheet_knowings) .nil) .nil)
  have h_is_name := ok_is_name (P := P) (w := w) (base := base) T
  have h_Sheet_need_key := ok_Sheet_need_key (P := P) (w := w) (base := base) T ⟨h_is_name⟩
  have hm_need_key_2 : MOk P w K mg base 2 "need_key" T_need_key_2 := (.cons (.cons (T.mok 7 3 65 h_Sheet_need_key) .nil) .nil)
  have h_Sheet_line_at := ok_Sheet_line_at (P := P) (w := w) (base := base) T ⟨hm_line_of_3, hm_need_key_2, hm_need_knowing_2⟩
  have hm_line_at_3 : MOk P w K mg base 3 "line_at" T_line_at_3 := (.cons (.cons (T.mok 8 3 66 h_Sheet_line_at) .nil) .nil)
  have h_earlier_end := ok_earlier_end (P := P) (w := w) (base := base) T
  have h_common := ok_common (P := P) (w := w) (base := base) T ⟨h_earlier_end⟩
  have h_cut_to := ok_cut_to (P := P) (w := w) (base := base) T ⟨h_common⟩
  have h_with_neighbours_joined := ok_with_neighbours_joined (P := P) (w := w) (base := base) T
  have h_put_on := ok_put_on (P := P) (w := w) (base := base) T ⟨h_cut_to, h_with_neighbours_joined⟩
  have h_Sheet_line_behind := ok_Sheet_line_behind (P := P) (w := w) (base := base) T ⟨h_put_on, hm_line_of_3⟩
  have hm_line_behind_3 : MOk P w K mg base 5 "line_behind" T_line_behind_3 := (.cons (.cons (T.mok 14 3 67 h_Sheet_line_behind) .nil) .nil)
  have h_Sheet_take_in := ok_Sheet_take_in (P := P) (w := w) (base := base) T ⟨hm_line_behind_3⟩
  have hm_take_in_3 : MOk P w K mg base 6 "take_in" T_take_in_3 := (.cons (.cons (T.mok 15 3 68 h_Sheet_take_in) .nil) .nil)
  have h_is_moment := ok_is_moment (P := P) (w := w) (base := base) T
  have h_is_stretch := ok_is_stretch (P := P) (w := w) (base := base) T ⟨h_is_moment⟩
  have h_Sheet_tell := ok_Sheet_tell (P := P) (w := w) (base := base) T ⟨h_is_name, h_is_stretch, hm_take_in_3⟩
  have hm_tell_2 : MOk P w K mg base 7 "tell" T_tell_2 := (.cons (.cons (T.mok 18 3 69 h_Sheet_tell) .nil) .nil)
  have h_worth_in := ok_worth_in (P := P) (w := w) (base := base) T
  have h_Sheet_worth_at := ok_Sheet_worth_at (P := P) (w := w) (base := base) T ⟨h_is_moment, h_worth_in, hm_line_of_3, hm_need_key_2, hm_need_knowing_2⟩
  have hm_worth_at_4 : MOk P w K mg base 3 "worth_at" T_worth_at_4 := (.cons (.cons (T.mok 20 3 70 h_Sheet_worth_at) .nil) .nil)
  have h_all_at := ok_all_at (P := P) (w := w) (base := base) T ⟨h_is_moment, hm_keys_at_2, hm_worth_at_4⟩
  have h_need_name := ok_need_name (P := P) (w := w) (base := base) T ⟨h_is_name⟩
  have h_when := ok_when (P := P) (w := w) (base := base) T ⟨h_need_name, hm_line_at_3⟩
  have h_who := ok_who (P := P) (w := w) (base := base) T ⟨h_need_name, h_when, hm_keys_at_2⟩
  have h__law_called := ok__law_called (P := P) (w := w) (base := base) T ⟨h_all_at, h_when, h_who⟩
  have h__law_asked := ok__law_asked (P := P) (w := w) (base := base) T ⟨h__law_called⟩
  have h__law_cell_at := ok__law_cell_at (P := P) (w := w) (base := base) T
  have h__law_due := ok__law_due (P := P) (w := w) (base := base) T
  have h__law_by_digits := ok__law_by_digits (P := P) (w := w) (base := base) T
  have h__law_tumbled := ok__law_tumbled (P := P) (w := w) (base := base) T
  have h__law_stretch := ok__law_stretch (P := P) (w := w) (base := base) T ⟨h__law_tumbled⟩
  have h__law_telling := ok__law_telling (P := P) (w := w) (base := base) T ⟨h__law_by_digits, h__law_stretch, h__law_tumbled⟩
  have h__law_words := ok__law_words (P := P) (w := w) (base := base) T ⟨h__law_tumbled⟩
  have C : Cs_law P w K mg base := ⟨h__law_asked, h__law_cell_at, h__law_due, h__law_telling, h__law_tumbled, h__law_words, hm_keys_at_2, hm_knowings_1, hm_line_at_3, hm_tell_2, hk_Sheet⟩
  exact fnD (k := 7) F sc_law len_law (fun cdv A outer s H E hr tk => (nmS f_law_eq (ds_cons (d_set 1 sc_law.nd (dc C._law_words hr tk (da_cons (dc C._law_cell_at hr tk (da_cons (dv 0) (da_cons d_int da_nil))) da_nil)))
  (nmS (f_law_19_eq) (ds_cons (d_set 2 sc_law.nd (dc C._law_words hr tk (da_cons (dc C._law_cell_at hr tk (da_cons (dv 0) (da_cons d_int da_nil))) da_nil)))
  (nmS (f_law_18_eq) (ds_cons (d_set 3 sc_law.nd (de_make0 C.k_Sheet hr))
  (nmS (f_law_17_eq) (ds_cons (d_for (passes_of rfl) rfl (di_any (de_sl (hh := false) (dv 0) (do_some d_int) (do_some d_int))) (dg_name (own := [4]) 4 sc_law.nd) (nmS (f_law_1_eq) (ds_one (d_expr (dm C.m_tell_2 hr tk (dv 3) (da_cons (dc C._law_telling hr tk (da_cons (dv 4) (da_cons (dv 1) (da_cons (dv 2) da_nil)))) da_nil))))))
  (nmS (f_law_16_eq) (ds_cons (d_set 5 sc_law.nd (dm0 C.m_knowings_1 hr tk (dv 3)))
  (nmS (f_law_15_eq) (ds_cons (d_set 6 sc_law.nd (de_lc (frz := true) (own := [("key", 11)]) rfl sc_law.nd (di_any (dv 1)) (blkOk_by (own := [("key", 11)]) (N := N_law) (sc := defScope s_law) (by decide +kernel)) (fun _ _ _ _ _ => (dg_name (own := [11]) 11 sc_law.nd)) (fun _ _ _ _ _ => dts_nil) (fun _ _ _ _ _ => (dm C.m_line_at_3 hr takes0 (dv 3) (da_cons (dv 11) (da_cons (dv 5) da_nil))))))
  (nmS (f_law_14_eq) (ds_cons (d_for (passes_of rfl) rfl (di_range1 (T.fr 0) (da_cons d_int da_nil)) (dg_name (own := [7]) 7 sc_law.nd) (nmS (f_law_10_eq) (ds_cons (d_set 8 sc_law.nd (de_lc (frz := true) (own := [("j", 17)]) rfl sc_law.nd (di_range1 (T.fr 0) (da_cons d_int da_nil)) (blkOk_by (own := [("j", 17)]) (N := N_law) (sc := defScope s_law) (by decide +kernel)) (fun _ _ _ _ _ => (dg_name (own := [17]) 17 sc_law.nd)) (fun _ _ _ _ _ => dts_nil) (fun _ _ _ _ _ => (dc C._law_tumbled hr takes0 (da_cons (dc C._law_cell_at hr takes0 (da_cons (dv 0) (da_cons d_int da_nil))) (da_cons (de_bin op_addAll (opa_add false) (de_bin op_addAll (opa_add false) d_int (de_bin op_mul opa_mul d_int (dv 7))) (dv 17)) da_nil))))))
  (nmS (f_law_9_eq) (ds_cons (d_setLc 9 (frz := true) (own := [("j", 17)]) rfl sc_law.nd (sw_true rfl rfl rfl (by decide +kernel)) (di_range1 (T.fr 0) (da_cons d_int da_nil)) (blkOk_by (own := [("j", 17)]) (N := N_law) (sc := defScope s_law) (by decide +kernel)) (fun _ _ _ _ _ => (dg_name (own := [17]) 17 sc_law.nd)) (fun _ _ _ _ _ => dts_nil) (fun _ _ _ _ _ => (de_cmp op_gt opa_gt (de_bin op_mod opa_mod (de_ix (hu64 hr) (dv 8) (dv 17)) d_int) d_int (nomark _))))
  (nmS (f_law_8_eq) (ds_cons (d_set 10 sc_law.nd (de_lst (hh := false) (da_cons d_str (da_cons d_str (da_cons (de_bin op_addAll (opa_add false) (de_ix (hu64 hr) (dv 1) d_int) d_str) (da_cons (de_bin op_addAll (opa_add false) d_str (de_sl (hh := false) (de_ix (hu64 hr) (dv 2) d_int) (do_some d_int) do_none)) (da_cons d_str (da_cons d_str da_nil))))))))
  (nmS (f_law_7_eq) (ds_cons (d_set 11 sc_law.nd (de_ix (hu64 hr) (de_lst (hh := false) (da_cons (de_ix (hu64 hr) (dv 10) (de_bin op_mod opa_mod (de_ix (hu64 hr) (dv 8) d_int) d_int)) (da_cons (de_ix (hu64 hr) (dv 1) (de_bin op_mod opa_mod (de_ix (hu64 hr) (dv 8) d_int) d_int)) da_nil))) (de_callTy call_int1 ca_int (T.fr 1) (by decide +kernel) (da_cons (de_ix (hu64 hr) (dv 9) d_int) da_nil))))
  (nmS (f_law_6_eq) (ds_cons (d_set 12 sc_law.nd (de_ix (hu64 hr) (de_lst (hh := false) (da_cons (de_ix (hu64 hr) (dv 10) (de_bin op_mod opa_mod (de_ix (hu64 hr) (dv 8) d_int) d_int)) (da_cons (de_ix (hu64 hr) (dv 2) (de_bin op_mod opa_mod (de_ix (hu64 hr) (dv 8) d_int) d_int)) da_nil))) (de_callTy call_int1 ca_int (T.fr 1) (by decide +kernel) (da_cons (de_ix (hu64 hr) (dv 9) d_int) da_nil))))
  (nmS (f_law_5_eq) (ds_cons (d_set 13 sc_law.nd (de_ix (hu64 hr) (de_lst (hh := false) (da_cons (de_ix (hu64 hr) (de_lst (hh := false) (da_cons (de_neg d_int) (da_cons (de_bin op_addAll (opa_add false) (de_bin op_pow opa_pow d_int d_int) d_int) (da_cons (de_bin op_sub opa_sub (de_neg d_int) (de_ix (hu64 hr) (dv 8) d_int)) (da_cons (de_bin op_addAll (opa_add false) (de_bin op_addAll (opa_add false) (de_bin op_pow opa_pow d_int d_int) d_int) (de_ix (hu64 hr) (dv 8) d_int)) da_nil))))) (de_bin op_mod opa_mod (de_ix (hu64 hr) (dv 8) d_int) d_int)) (da_cons (de_bin op_mod opa_mod (de_ix (hu64 hr) (dv 8) d_int) d_int) da_nil))) (de_callTy call_int1 ca_int (T.fr 1) (by decide +kernel) (da_cons (de_ix (hu64 hr) (dv 9) d_int) da_nil))))
  (nmS (f_law_4_eq) (ds_cons (d_set 14 sc_law.nd (de_ix (hu64 hr) (de_lst (hh := false) (da_cons (de_ix (hu64 hr) (de_lst (hh := false) (da_cons (de_neg d_int) (da_cons (de_bin op_addAll (opa_add false) (dv 5) d_int) (da_cons (de_bin op_sub opa_sub (de_neg d_int) (de_ix (hu64 hr) (dv 8) d_int)) (da_cons (de_bin op_addAll (opa_add false) (de_bin op_addAll (opa_add false) (dv 5) d_int) (de_ix (hu64 hr) (dv 8) d_int)) da_nil))))) (de_bin op_mod opa_mod (de_ix (hu64 hr) (dv 8) d_int) d_int)) (da_cons (de_bin op_mod opa_mod (de_ix (hu64 hr) (dv 8) d_int) (de_bin op_addAll (opa_add false) (dv 5) d_int)) da_nil))) (de_callTy call_int1 ca_int (T.fr 1) (by decide +kernel) (da_cons (de_ix (hu64 hr) (dv 9) d_int) da_nil))))
  (nmS (f_law_3_eq) (ds_cons (d_set 15 sc_law.nd (de_bin op_mod opa_mod (dv 7) d_int))
  (nmS (f_law_2_eq) (ds_one (d_if (dt_cmp (op_neP (hu64 hr)) opa_ne (dc C._law_asked hr tk (da_cons (dv 3) (da_cons (dv 15) (da_cons (dv 11) (da_cons (dv 12) (da_cons (dv 13) (da_cons (dv 14) da_nil))))))) (dc C._law_due hr tk (da_cons (dv 15) (da_cons (dv 9) da_nil))) (nomark _)) (ds_one (d_ret d_bl)) ds_nil))))))))))))))))))))
  (nmS (f_law_13_eq) (ds_cons (d_set 16 sc_law.nd (de_callB (call_sortA (hu64 hr)) (ca_sortA (h := false)) (T.fr 2) (by decide +kernel) (da_cons (de_lc (frz := true) (own := [("k", 7)]) rfl sc_law.nd (di_range1 (T.fr 0) (da_cons d_int da_nil)) (blkOk_by (own := [("k", 7)]) (N := N_law) (sc := defScope s_law) (by decide +kernel)) (fun _ _ _ _ _ => (dg_name (own := [7]) 7 sc_law.nd)) (fun _ _ _ _ _ => (dts_one (dt_cmp (op_neP (hu64 hr)) opa_ne (de_ix (hu64 hr) (dv 6) (dv 7)) (de_lst (hh := false) da_nil) (nomark _)))) (fun _ _ _ _ _ => (de_ix (hu64 hr) (dv 1) (dv 7)))) da_nil)))
  (nmS (f_law_12_eq) (ds_cons (d_if (PW.pt (dw_or (dt_cmp (op_neP (hu64 hr)) opa_ne (dm0 C.m_knowings_1 hr tk (dv 3)) (dv 5) (nomark _)) (dw_or1 (dt_cmp (op_neP (hu64 hr)) opa_ne (dm C.m_keys_at_2 hr tk (dv 3) (da_cons (dv 5) da_nil)) (dv 16) (nomark _))))) (ds_one (d_ret d_bl)) ds_nil)
  (nmS (f_law_11_eq) (ds_one (d_ret (de_cmp (op_eqP (hu64 hr)) opa_eq (de_lc (frz := true) (own := [("key", 11)]) rfl sc_law.nd (di_any (dv 1)) (blkOk_by (own := [("key", 11)]) (N := N_law) (sc := defScope s_law) (by decide +kernel)) (fun _ _ _ _ _ => (dg_name (own := [11]) 11 sc_law.nd)) (fun _ _ _ _ _ => dts_nil) (fun _ _ _ _ _ => (dm C.m_line_at_3 hr takes0 (dv 3) (da_cons (dv 11) (da_cons (dv 5) da_nil))))) (dv 6) (nomark _)))))))))))))))))))))))) pure_law
end
abbrev R : PySem.W.OpenRow := PySem.W.OpenLaw.row PySem.Challenge.rw_twotimes_k33_asks_refused
abbrev hk : PySem.W.Hook := hookX 5 fas fxs dfs
def ob (s : PySem.W.SharedT) : He.AlD := obsXG 5 fas fxs dfs (HandSHeadRun.getT s)
theorem ob_eq (s : PySem.W.SharedT) : ob s = hk.obs s.abs := obsXG_eq (HandSHeadRun.getT_eq s)
def loose : List PySem.Str := (["TimesError", "NoName", "NoStretch", "NoKnowing", "Forgotten", "NoSheet", "Broken", "NoFit", "NoLog", "NoRow", "LAST", "LETTERS", "is_name", "is_moment", "is_stretch", "earlier_end", "common", "need_name", "all_at", "when", "who", "worth_in", "with_neighbours_joined", "cut_to", "put_on", "Sheet", "_law_cell_at", "_law_tumbled", "_law_words", "_law_stretch"] : List PySem.Str) ++ (["_law_by_digits", "_law_telling", "_law_called", "_law_asked", "_law_due"] : List PySem.Str)
theorem run (w : World) : HandSHeadRun.RunEq R (PySem.W.view R.prog [41]) hk ob 12000 loose w := by
  intro os
  kernel_rfl
end Kx
open PySem PySem.W PySem.Calls PyProof.Rows
set_option maxRecDepth 100000 in
set_option maxHeartbeats 0 in
theorem PySem.Challenge.cw_twotimes_k33_asks_refused_holds : PySem.Challenge.rw_twotimes_k33_asks_refused.Holds := by
  w_on; o_law
  refine HandSHeadRun.head_any (r := OpenLaw.row PySem.Challenge.rw_twotimes_k33_asks_refused) (q := view (OpenLaw.row PySem.Challenge.rw_twotimes_k33_asks_refused).prog [41]) (H := Kx.hk) (ob := Kx.ob) (M := 12000) (loose := Kx.loose) (d := HandSHeadRun.topDef (OpenLaw.row PySem.Challenge.rw_twotimes_k33_asks_refused).prog 41) (kwd := []) Kx.ob_eq
    (by kernel_rfl) (fun s => by kernel_rfl) Kx.run (by kernel_rfl) (by kernel_rfl) (by kernel_rfl) (by rfl) (by first | assumption | decide +kernel) (by decide +kernel) ⟨rfl, rfl, rfl, rfl, rfl, by decide +kernel⟩ ?hw ?hc
  case hw => w_witness2
  case hc =>
    exact Tw.law_end (l := PySem.Challenge.rw_twotimes_k33_asks_refused) (k := 8) (i := 34) (j := 57) rfl (by kernel_rfl) ⟨rfl, by decide, by decide⟩ rfl rfl rfl rfl (by kernel_rfl)
      (fun K fd F s u => F.bindsA (ps := ["script"]) (fun _ _ _ _ _ _ us hl => match us, hl with | [_], _ => rfl) s [u] rfl) (fun w K mg base T fd F => Kx.ok_all T fd F) rfl
