import PyProof.Rows.All
import HandS.ForMost
import HandS.ForExc
import HandS.Walk
import HandS.Deep
import HandS.Wide
import HandS.ExcInit
import HandS.ExcField
import HandS.ExcIs
import HandS.IsInst
import HandS.Lambda
import HandS.TupAny
import HandS.SortInts
import HandS.Style
import PyProof.Rows.SeqMore
import HandS.Conv
import HandS.More
import HandS.NoneIn
import PyProof.Rows.ChunkEnd
import KE.SortData
import HandS.ExcOwn
import KE.KExcIs
import HandS.SetFor
import HandS.Strs
import HandS.Small
import HandS.Set
import PyProof.Rows.SortShellAny
import HandS.Rev
import HandS.EndTab
import KE.SortKeyHeap
import KE.KNestM
import PySem.Challenge.RW_sixtellings_k36_one_of_each_group
set_option Elab.async false
set_option linter.all false
set_option maxRecDepth 100000
/-! Values as trees, who may write them, and what a piece of Python does to them. -/
namespace T6
open PySem PySem.Spec PyProof.Rows L2

inductive D where
  | non | bl (b : Bool) | int (i : Int) | str (x : Str)
  | tup (ds : List D) | lst (ds : List D) | dct (ks : List Key) (ds : List D)
  | err (c : Value) (ds : List D)

/-- sh: others may hold it too; rt: its root list is ours alone; dp: all its lists are ours alone; lk: lent, to be read -/
inductive Md where | sh | rt | dp | lk
  deriving DecidableEq

/-- the constant lists that may be met -/
abbrev Cs := Addr → List V → Prop
def RF : Cs := fun _ _ => False
def KL (K : PySem.W.Frag) : Cs := fun a xs =>
  ∃ (o : Obj) (its : Array Value) (n : Nat), K.lookup a = some o ∧ o.cls = .type "list" ∧ o.dict = none ∧ o.data = .seq its n ∧ its.size ≤ sizeLine ∧ Vals xs its.toList
theorem sql_iff {K : PySem.W.Frag} {H : Hp} {a : Addr} {xs : List V} : SqL K H a xs ↔ Rd H a (.lst xs) ∨ KL K a xs := Iff.rfl

/-- what may be changed -/
def Trk (H : Hp) (a : Addr) : Prop := (∃ xs, H a = some (.lst xs)) ∨ ∃ kvs, H a = some (.dK kvs)

mutual
/-- no list, no dict in it -/
def flat : D → Bool
  | .tup ds => flats ds
  | .lst _ => false
  | .dct _ _ => false
  | .err _ ds => flats ds
  | .non => true
  | .bl _ => true
  | .int _ => true
  | .str _ => true
def flats : List D → Bool
  | [] => true
  | d :: ds => flat d && flats ds
end

/-- at a: an exception of the class c, its dict, kept -/
def ErO (c : Value) (od : Option Addr) (a : Addr) : HO := .ext fun h => ∃ (oe : Obj) (vs : Array Value), h.get? a = some oe ∧ Zc c od oe ∧ oe.data = .fields vs
/-- what never changes -/
def Oth (u : HO) : Prop := (∃ φ, u = .ext φ) ∨ ∃ fs, u = .xd fs
mutual
def Rep (K : Cs) (H : Hp) : D → V → List Addr → Prop
  | .non, v, fp => v = .non ∧ fp = []
  | .bl b, v, fp => v = .bl b ∧ fp = []
  | .int i, v, fp => v = .int i ∧ fp = []
  | .str x, v, fp => v = .str x ∧ fp = []
  | .tup ds, v, fp => ∃ a vs, v = .ref a ∧ Rd H a (.tup vs) ∧ Reps K H ds vs fp
  | .lst ds, v, fp => ∃ a vs f1, v = .ref a ∧ Reps K H ds vs f1 ∧ ((Rd H a (.lst vs) ∧ fp = a :: f1) ∨ (K a vs ∧ fp = f1))
  | .dct ks ds, v, fp => ∃ a kvs f1, v = .ref a ∧ kvs.map (·.1) = ks ∧ Reps K H ds (kvs.map (·.2)) f1 ∧ Rd H a (.dK kvs) ∧ fp = a :: f1
  | .err c ds, v, fp => fp = [] ∧ flats ds = true ∧ ∃ a od vs, v = .ref a ∧ H a = some (ErO c od a) ∧ Reps K H ds vs [] ∧ ((od = none ∧ vs = []) ∨ ∃ q w, od = some q ∧ vs = [w] ∧ H q = some (.xd [("at", w)]))
def Reps (K : Cs) (H : Hp) : List D → List V → List Addr → Prop
  | [], vs, fp => vs = [] ∧ fp = []
  | d :: ds, vs, fp => ∃ v vs' f1 f2, vs = v :: vs' ∧ fp = f1 ++ f2 ∧ Rep K H d v f1 ∧ Reps K H ds vs' f2
end

section
variable {K : Cs} {H H' : Hp}
mutual
theorem rep_flat : ∀ {d : D} {v : V} {fp : List Addr}, flat d = true → Rep K H d v fp → fp = []
  | .non, _, _, _, h => h.2
  | .bl _, _, _, _, h => h.2
  | .int _, _, _, _, h => h.2
  | .str _, _, _, _, h => h.2
  | .tup ds, _, _, f, h => by
    obtain ⟨a, vs, _, _, r⟩ := h
    exact reps_flat (by simpa [flat] using f) r
  | .lst _, _, _, f, _ => by simp [flat] at f
  | .dct _ _, _, _, f, _ => by simp [flat] at f
  | .err _ _, _, _, f, h => h.1
theorem reps_flat : ∀ {ds : List D} {vs : List V} {fp : List Addr}, flats ds = true → Reps K H ds vs fp → fp = []
  | [], _, _, _, h => h.2
  | d :: ds, _, _, f, h => by
    obtain ⟨v, vs', f1, f2, _, rfl, r1, r2⟩ := h
    simp only [flats, Bool.and_eq_true] at f
    rw [rep_flat f.1 r1, reps_flat f.2 r2]
    rfl
end
mutual
theorem rep_live : ∀ {d : D} {v : V} {fp : List Addr}, Rep K H d v fp → ∀ a ∈ fp, H a ≠ none
  | .non, _, _, h => by rw [h.2]; simp
  | .bl _, _, _, h => by rw [h.2]; simp
  | .int _, _, _, h => by rw [h.2]; simp
  | .str _, _, _, h => by rw [h.2]; simp
  | .tup ds, _, _, h => by
    obtain ⟨a, vs, _, _, r⟩ := h
    exact reps_live r
  | .lst ds, _, _, h => by
    obtain ⟨a, vs, f1, _, r, (⟨q, rfl⟩ | ⟨_, rfl⟩)⟩ := h
    · intro b hb
      rcases List.mem_cons.mp hb with rfl | hb
      · rcases q with q | ⟨o, q⟩ <;> (rw [q]; simp)
      · exact reps_live r b hb
    · exact reps_live r
  | .dct ks ds, _, _, h => by
    obtain ⟨a, kvs, f1, _, _, r, q, rfl⟩ := h
    intro b hb
    rcases List.mem_cons.mp hb with rfl | hb
    · rcases q with q | ⟨o, q⟩ <;> (rw [q]; simp)
    · exact reps_live r b hb
  | .err _ _, _, _, h => by rw [h.1]; simp
theorem reps_live : ∀ {ds : List D} {vs : List V} {fp : List Addr}, Reps K H ds vs fp → ∀ a ∈ fp, H a ≠ none
  | [], _, _, h => by rw [h.2]; simp
  | d :: ds, _, _, h => by
    obtain ⟨v, vs', f1, f2, _, rfl, r1, r2⟩ := h
    intro b hb
    rcases List.mem_append.mp hb with hb | hb
    · exact rep_live r1 b hb
    · exact reps_live r2 b hb
end
/-- there, and no table of code objects -/
def Lv (H : Hp) (a : Addr) : Prop := H a ≠ none ∧ ∀ ps, H a ≠ some (.tbl ps)
theorem rd_lv {a : Addr} {u : HO} (q : Rd H a u) (n : ∀ ps, u ≠ .tbl ps) : Lv H a := by
  rcases q with q | ⟨o, q⟩
  · exact ⟨by rw [q]; simp, fun ps z => by rw [q] at z; cases z; exact n _ rfl⟩
  · exact ⟨by rw [q]; simp, fun ps z => by rw [q] at z; cases z⟩
mutual
theorem rep_lv : ∀ {d : D} {v : V} {fp : List Addr}, Rep K H d v fp → ∀ a ∈ fp, Lv H a
  | .non, _, _, h => by rw [h.2]; simp
  | .bl _, _, _, h => by rw [h.2]; simp
  | .int _, _, _, h => by rw [h.2]; simp
  | .str _, _, _, h => by rw [h.2]; simp
  | .tup ds, _, _, h => by
    obtain ⟨a, vs, _, _, r⟩ := h
    exact reps_lv r
  | .lst ds, _, _, h => by
    obtain ⟨a, vs, f1, _, r, (⟨q, rfl⟩ | ⟨_, rfl⟩)⟩ := h
    · intro b hb
      rcases List.mem_cons.mp hb with rfl | hb
      · exact rd_lv q fun ps z => nomatch z
      · exact reps_lv r b hb
    · exact reps_lv r
  | .dct ks ds, _, _, h => by
    obtain ⟨a, kvs, f1, _, _, r, q, rfl⟩ := h
    intro b hb
    rcases List.mem_cons.mp hb with rfl | hb
    · exact rd_lv q fun ps z => nomatch z
    · exact reps_lv r b hb
  | .err _ _, _, _, h => by rw [h.1]; simp
theorem reps_lv : ∀ {ds : List D} {vs : List V} {fp : List Addr}, Reps K H ds vs fp → ∀ a ∈ fp, Lv H a
  | [], _, _, h => by rw [h.2]; simp
  | d :: ds, _, _, h => by
    obtain ⟨v, vs', f1, f2, _, rfl, r1, r2⟩ := h
    intro b hb
    rcases List.mem_append.mp hb with hb | hb
    · exact rep_lv r1 b hb
    · exact reps_lv r2 b hb
end
/-- what keeps a tree: its own lists, all tuples, all that is locked -/
structure Kp (fp : List Addr) (H H' : Hp) : Prop where
  own : ∀ a ∈ fp, H' a = H a
  tup : ∀ a xs, H a = some (.tup xs) → H' a = some (.tup xs)
  frz : ∀ a o u, H a = some (.frz o u) → H' a = some (.frz o u)
  oth : ∀ a u, H a = some u → Oth u → H' a = some u
theorem Kp.sub {f g : List Addr} (k : Kp f H H') (h : ∀ a ∈ g, a ∈ f) : Kp g H H' := ⟨fun a m => k.own a (h a m), k.tup, k.frz, k.oth⟩
theorem Kp.rdt {f : List Addr} (k : Kp f H H') {a : Addr} {xs : List V} (h : Rd H a (.tup xs)) : Rd H' a (.tup xs) := by
  rcases h with h | ⟨o, h⟩
  · exact .inl (k.tup _ _ h)
  · exact .inr ⟨o, k.frz _ _ _ h⟩
theorem Kp.rd {f : List Addr} (k : Kp f H H') {a : Addr} {u : HO} (ha : a ∈ f) (h : Rd H a u) : Rd H' a u := by
  rcases h with h | ⟨o, h⟩
  · exact .inl ((k.own a ha).trans h)
  · exact .inr ⟨o, k.frz _ _ _ h⟩
mutual
theorem Rep.kp : ∀ {d : D} {v : V} {fp : List Addr}, Rep K H d v fp → Kp fp H H' → Rep K H' d v fp
  | .non, _, _, h, _ => h
  | .bl _, _, _, h, _ => h
  | .int _, _, _, h, _ => h
  | .str _, _, _, h, _ => h
  | .tup ds, _, _, h, k => by
    obtain ⟨a, vs, e, q, r⟩ := h
    exact ⟨a, vs, e, k.rdt q, Reps.kp r k⟩
  | .lst ds, _, _, h, k => by
    obtain ⟨a, vs, f1, e, r, (⟨q, rfl⟩ | ⟨q, rfl⟩)⟩ := h
    · exact ⟨a, vs, f1, e, Reps.kp r (k.sub fun b hb => List.mem_cons_of_mem _ hb), .inl ⟨k.rd List.mem_cons_self q, rfl⟩⟩
    · exact ⟨a, vs, _, e, Reps.kp r k, .inr ⟨q, rfl⟩⟩
  | .dct ks ds, _, _, h, k => by
    obtain ⟨a, kvs, f1, e, e2, r, q, rfl⟩ := h
    exact ⟨a, kvs, f1, e, e2, Reps.kp r (k.sub fun b hb => List.mem_cons_of_mem _ hb), k.rd List.mem_cons_self q, rfl⟩
  | .err c ds, _, _, h, k => by
    obtain ⟨rfl, fl, a, od, vs, e, q, r, z⟩ := h
    refine ⟨rfl, fl, a, od, vs, e, k.oth _ _ q (.inl ⟨_, rfl⟩), Reps.kp r k, ?_⟩
    rcases z with z | ⟨q, w, e1, e2, e3⟩
    · exact .inl z
    · exact .inr ⟨q, w, e1, e2, k.oth _ _ e3 (.inr ⟨_, rfl⟩)⟩
theorem Reps.kp : ∀ {ds : List D} {vs : List V} {fp : List Addr}, Reps K H ds vs fp → Kp fp H H' → Reps K H' ds vs fp
  | [], _, _, h, _ => h
  | d :: ds, _, _, h, k => by
    obtain ⟨v, vs', f1, f2, e, rfl, r1, r2⟩ := h
    exact ⟨v, vs', f1, f2, e, rfl, Rep.kp r1 (k.sub fun b hb => List.mem_append_left _ hb), Reps.kp r2 (k.sub fun b hb => List.mem_append_right _ hb)⟩
end
mutual
theorem Rep.mono : ∀ {d : D} {v : V} {fp : List Addr}, Rep RF H d v fp → Rep K H d v fp
  | .non, _, _, h => h
  | .bl _, _, _, h => h
  | .int _, _, _, h => h
  | .str _, _, _, h => h
  | .tup ds, _, _, h => by
    obtain ⟨a, vs, e, q, r⟩ := h
    exact ⟨a, vs, e, q, Reps.mono r⟩
  | .lst ds, _, _, h => by
    obtain ⟨a, vs, f1, e, r, (q | ⟨q, _⟩)⟩ := h
    · exact ⟨a, vs, f1, e, Reps.mono r, .inl q⟩
    · exact q.elim
  | .dct ks ds, _, _, h => by
    obtain ⟨a, kvs, f1, e, e2, r, q⟩ := h
    exact ⟨a, kvs, f1, e, e2, Reps.mono r, q⟩
  | .err c ds, _, _, h => by
    obtain ⟨rfl, fl, a, od, vs, e, q, r, z⟩ := h
    exact ⟨rfl, fl, a, od, vs, e, q, Reps.mono r, z⟩
theorem Reps.mono : ∀ {ds : List D} {vs : List V} {fp : List Addr}, Reps RF H ds vs fp → Reps K H ds vs fp
  | [], _, _, h => h
  | d :: ds, _, _, h => by
    obtain ⟨v, vs', f1, f2, e, e2, r1, r2⟩ := h
    exact ⟨v, vs', f1, f2, e, e2, Rep.mono r1, Reps.mono r2⟩
end
theorem Rd.uniq {a : Addr} {u w : HO} (h : Rd H a u) (k : Rd H a w) (hu : ∀ o x, u ≠ .frz o x) (hw : ∀ o x, w ≠ .frz o x) : u = w := by
  rcases h with h | ⟨o, h⟩ <;> rcases k with k | ⟨p, k⟩ <;> rw [h] at k <;> cases k
  · rfl
  · exact absurd rfl (hu _ _)
  · exact absurd rfl (hw _ _)
  · rfl
mutual
theorem Rep.uniq : ∀ {d : D} {v : V} {f g : List Addr}, Rep RF H d v f → Rep RF H d v g → f = g
  | .non, _, _, _, h, k => h.2.trans k.2.symm
  | .bl _, _, _, _, h, k => h.2.trans k.2.symm
  | .int _, _, _, _, h, k => h.2.trans k.2.symm
  | .str _, _, _, _, h, k => h.2.trans k.2.symm
  | .tup ds, _, _, _, h, k => by
    obtain ⟨a, vs, rfl, q, r⟩ := h
    obtain ⟨a', vs', e', q', r'⟩ := k
    cases e'
    have := Rd.uniq q q' (fun _ _ z => nomatch z) (fun _ _ z => nomatch z)
    cases this
    exact Reps.uniq r r'
  | .lst ds, _, _, _, h, k => by
    obtain ⟨a, vs, f1, rfl, r, (⟨q, rfl⟩ | ⟨q, _⟩)⟩ := h
    · obtain ⟨a', vs', f1', e', r', (⟨q', rfl⟩ | ⟨q', _⟩)⟩ := k
      · cases e'
        have := Rd.uniq q q' (fun _ _ z => nomatch z) (fun _ _ z => nomatch z)
        cases this
        rw [Reps.uniq r r']
      · exact q'.elim
    · exact q.elim
  | .dct ks ds, _, _, _, h, k => by
    obtain ⟨a, kvs, f1, rfl, _, r, q, rfl⟩ := h
    obtain ⟨a', kvs', f1', e', _, r', q', rfl⟩ := k
    cases e'
    have := Rd.uniq q q' (fun _ _ z => nomatch z) (fun _ _ z => nomatch z)
    cases this
    rw [Reps.uniq r r']
  | .err c ds, _, _, _, h, k => h.1.trans k.1.symm
theorem Reps.uniq : ∀ {ds : List D} {vs : List V} {f g : List Addr}, Reps RF H ds vs f → Reps RF H ds vs g → f = g
  | [], _, _, _, h, k => h.2.trans k.2.symm
  | d :: ds, _, _, _, h, k => by
    obtain ⟨v, vs', f1, f2, rfl, rfl, r1, r2⟩ := h
    obtain ⟨w, ws', g1, g2, e, rfl, s1, s2⟩ := k
    cases e
    rw [Rep.uniq r1 s1, Reps.uniq r2 s2]
end
theorem Reps.length : ∀ {ds : List D} {vs : List V} {fp : List Addr}, Reps K H ds vs fp → vs.length = ds.length
  | [], _, _, h => by rw [h.1]; rfl
  | d :: ds, _, _, h => by
    obtain ⟨v, vs', f1, f2, rfl, _, _, r2⟩ := h
    rw [List.length_cons, List.length_cons, Reps.length r2]
/-- the i-th of them -/
theorem Reps.get : ∀ {ds : List D} {vs : List V} {fp : List Addr} {i : Nat} {d : D}, Reps K H ds vs fp → ds[i]? = some d → ∃ v f, vs[i]? = some v ∧ Rep K H d v f ∧ ∀ a ∈ f, a ∈ fp
  | [], _, _, _, _, _, e => by simp at e
  | d :: ds, _, _, 0, x, h, e => by
    obtain ⟨v, vs', f1, f2, rfl, rfl, r1, r2⟩ := h
    simp only [List.getElem?_cons_zero, Option.some.injEq] at e
    subst e
    exact ⟨v, f1, rfl, r1, fun a ha => List.mem_append_left _ ha⟩
  | d :: ds, _, _, i + 1, x, h, e => by
    obtain ⟨v, vs', f1, f2, rfl, rfl, r1, r2⟩ := h
    simp only [List.getElem?_cons_succ] at e
    obtain ⟨w, f, e1, r, s⟩ := Reps.get r2 e
    exact ⟨w, f, by simpa using e1, r, fun a ha => List.mem_append_right _ (s a ha)⟩
theorem Reps.append : ∀ {ds es : List D} {vs ws : List V} {f g : List Addr}, Reps K H ds vs f → Reps K H es ws g → Reps K H (ds ++ es) (vs ++ ws) (f ++ g)
  | [], _, _, _, _, _, h, k => by obtain ⟨rfl, rfl⟩ := h; exact k
  | d :: ds, _, _, _, _, _, h, k => by
    obtain ⟨v, vs', f1, f2, rfl, rfl, r1, r2⟩ := h
    exact ⟨v, vs' ++ _, f1, f2 ++ _, rfl, by rw [List.append_assoc], r1, Reps.append r2 k⟩
theorem Reps.split : ∀ {ds es : List D} {vs : List V} {f : List Addr}, Reps K H (ds ++ es) vs f → ∃ v1 v2 f1 f2, vs = v1 ++ v2 ∧ f = f1 ++ f2 ∧ Reps K H ds v1 f1 ∧ Reps K H es v2 f2
  | [], _, vs, f, h => ⟨[], vs, [], f, rfl, rfl, ⟨rfl, rfl⟩, h⟩
  | d :: ds, es, _, _, h => by
    obtain ⟨v, vs', f1, f2, rfl, rfl, r1, r2⟩ := h
    obtain ⟨a, b, c, e, rfl, rfl, h1, h2⟩ := Reps.split r2
    exact ⟨v :: a, b, f1 ++ c, e, rfl, by rw [List.append_assoc], ⟨v, a, f1, c, rfl, rfl, r1, h1⟩, h2⟩
end
end T6

namespace T6
open PySem PySem.Spec PyProof.Rows L2

abbrev MD := Md × D
abbrev Ev := List (Option MD)
abbrev En := V × MD
abbrev Ps := Addr → Prop

section
variable (K : Cs) (H : Hp) (S L : Ps)
/-- one value, with whose lists are whose -/
def Ent (e : En) (own : List Addr) : Prop := match e.2.1 with
  | .sh => own = [] ∧ ∃ fp, Rep K H e.2.2 e.1 fp ∧ ∀ a ∈ fp, S a
  | .lk => own = [] ∧ ∃ fp, Rep K H e.2.2 e.1 fp ∧ ∀ a ∈ fp, L a ∨ S a
  | .dp => Rep RF H e.2.2 e.1 own ∧ ∀ a ∈ own, Trk H a
  | .rt => ∃ a f1, e.1 = .ref a ∧ own = [a] ∧ (∀ b ∈ f1, S b) ∧
      ((∃ ds vs, e.2.2 = .lst ds ∧ H a = some (.lst vs) ∧ Reps K H ds vs f1) ∨ ∃ ks ds kvs, e.2.2 = .dct ks ds ∧ kvs.map (·.1) = ks ∧ H a = some (.dK kvs) ∧ Reps K H ds (kvs.map (·.2)) f1)
def Ents : List En → List Addr → Prop
  | [], o => o = []
  | e :: es, o => ∃ o1 o2, o = o1 ++ o2 ∧ Ent K H S L e o1 ∧ Ents es o2
end

/-- the tables of code objects that are known -/
class Tbl where
  tb : Addr → Prop
variable [Tbl]
/-- the name of the code objects that may be added -/
def QL : Str := "choices.<locals>.<lambda>"
/-- a world of values: O owned, S shared, L lent -/
structure Good (K : Cs) (H : Hp) (O S L : Ps) (es : List En) : Prop where
  ex : ∃ ol, Ents K H S L es ol ∧ ol.Nodup ∧ ∀ a, a ∈ ol ↔ O a
  os : ∀ a, O a → ¬ S a ∧ ¬ L a
  sl : ∀ a, S a → ¬ L a
  lv : ∀ a, S a ∨ L a → H a ≠ none
  tab : ∀ P, Tbl.tb P → LamX.TabS H P QL

/-- kept; a table of code objects may grow -/
def Kpo (H' : Hp) (a : Addr) (o : HO) : Prop := H' a = some o ∨ ∃ ps ps' : Array Value, o = .tbl ps ∧ H' a = some (.tbl ps') ∧ (TriplesOk ps.toList → TriplesOk ps'.toList) ∧ ∀ (pos : Pos) (cv : Value), codeAmong pos ps'.toList = some cv → codeAmong pos ps.toList = some cv ∨ ∃ c, cv = .ref c ∧ H' c = some (LamX.CodeO c QL)
theorem Kpo.eq {H' : Hp} {a : Addr} {o : HO} (k : Kpo H' a o) (n : ∀ ps, o ≠ .tbl ps) : H' a = some o := by
  rcases k with k | ⟨ps, _, e, _⟩
  · exact k
  · exact absurd e (n ps)
/-- what a step may do -/
structure Go (O S : Ps) (H : Hp) (O' S' : Ps) (H' : Hp) : Prop where
  keep : ∀ a o, H a = some o → ¬ O a → Kpo H' a o
  code : ∀ c, H c = some (LamX.CodeO c QL) → H' c = some (LamX.CodeO c QL)
  live : ∀ a, H a ≠ none → H' a ≠ none
  newO : ∀ a, O' a → O a ∨ H a = none
  monS : ∀ a, S a → S' a
  newS : ∀ a, S' a → S a ∨ O a ∨ H a = none

section
variable {K : Cs} {H H' H1 H2 : Hp} {O O' O1 O2 S S' S1 S2 L : Ps} {es fs : List En} {e : En} {o own : List Addr}
theorem Go.refl : Go O S H O S H := ⟨fun _ _ h _ => .inl h, fun _ h => h, fun _ h => h, fun _ h => .inl h, fun _ h => h, fun _ h => .inl h⟩
theorem Go.trans (g : Go O S H O1 S1 H1) (k : Go O1 S1 H1 O2 S2 H2) : Go O S H O2 S2 H2 where
  keep := fun a o h n => by
    have n1 : ¬ O1 a := fun q => (g.newO a q).elim n fun z => by rw [z] at h; cases h
    rcases g.keep a o h n with q | ⟨ps, ps1, rfl, q, t1, c1⟩
    · exact k.keep a o q n1
    · rcases k.keep a _ q n1 with q2 | ⟨_, ps2, e, q2, t2, c2⟩
      · refine .inr ⟨ps, ps1, rfl, q2, t1, fun pos cv hc => (c1 pos cv hc).imp id fun ⟨c, e1, e2⟩ => ⟨c, e1, k.code c e2⟩⟩
      · cases e
        refine .inr ⟨ps, ps2, rfl, q2, fun h => t2 (t1 h), fun pos cv hc => ?_⟩
        rcases c2 pos cv hc with z | z
        · exact (c1 pos cv z).imp id fun ⟨c, e1, e2⟩ => ⟨c, e1, k.code c e2⟩
        · exact .inr z
  code := fun c h => k.code c (g.code c h)
  live := fun a h => k.live a (g.live a h)
  newO := fun a h => (k.newO a h).elim (g.newO a) fun z => by
    by_cases q : H a = none
    · exact .inr q
    · exact absurd z (g.live a q)
  monS := fun a h => k.monS a (g.monS a h)
  newS := fun a h => (k.newS a h).elim (g.newS a) fun z => z.elim (fun z => .inr ((g.newO a z).elim .inl .inr)) fun z => by
    by_cases q : H a = none
    · exact .inr (.inr q)
    · exact absurd z (g.live a q)
/-- less is owned behind -/
theorem Go.less (g : Go O S H O1 S1 H1) (h : ∀ a, O' a → O1 a) : Go O S H O' S1 H1 := ⟨g.keep, g.code, g.live, fun a q => g.newO a (h a q), g.monS, g.newS⟩

theorem Trk.ne {a : Addr} (t : Trk H a) : H a ≠ none := by
  rcases t with ⟨xs, q⟩ | ⟨k, q⟩ <;> (rw [q]; simp)
theorem Trk.lv {a : Addr} (t : Trk H a) : Lv H a := by
  rcases t with ⟨xs, q⟩ | ⟨k, q⟩ <;> exact ⟨by rw [q]; simp, fun ps z => by rw [q] at z; cases z⟩
theorem Trk.notup {a : Addr} {xs : List V} (t : Trk H a) (h : H a = some (.tup xs)) : False := by
  rcases t with ⟨xs, q⟩ | ⟨k, q⟩ <;> (rw [q] at h; cases h)
theorem Trk.nofrz {a : Addr} {ob : Obj} {u : HO} (t : Trk H a) (h : H a = some (.frz ob u)) : False := by
  rcases t with ⟨xs, q⟩ | ⟨k, q⟩ <;> (rw [q] at h; cases h)

theorem Trk.nooth {a : Addr} {u : HO} (t : Trk H a) (h : H a = some u) (o : Oth u) : False := by
  rcases t with ⟨xs, q⟩ | ⟨k, q⟩ <;> (rw [q] at h; cases h; rcases o with ⟨φ, z⟩ | ⟨fs, z⟩ <;> cases z)
theorem Ent.trk (h : Ent K H S L e own) : ∀ a ∈ own, Trk H a := by
  obtain ⟨v, m, d⟩ := e
  cases m
  · rw [h.1]; simp
  · obtain ⟨a, f1, _, rfl, _, h⟩ := h
    intro b hb
    simp only [List.mem_singleton] at hb
    rw [hb]
    rcases h with ⟨_, vs, _, q, _⟩ | ⟨_, _, kvs, _, _, q, _⟩
    · exact .inl ⟨_, q⟩
    · exact .inr ⟨_, q⟩
  · exact h.2
  · rw [h.1]; simp
theorem Ent.rep (h : Ent K H S L e own) : ∃ fp, Rep K H e.2.2 e.1 fp := by
  obtain ⟨v, m, d⟩ := e
  cases m
  · obtain ⟨_, fp, r, _⟩ := h; exact ⟨fp, r⟩
  · obtain ⟨a, f1, rfl, _, _, h⟩ := h
    rcases h with ⟨ds, vs, rfl, q, r⟩ | ⟨ks, ds, kvs, rfl, e, q, r⟩
    · exact ⟨a :: f1, a, vs, f1, rfl, r, .inl ⟨.inl q, rfl⟩⟩
    · exact ⟨a :: f1, a, kvs, f1, rfl, e, r, .inl q, rfl⟩
  · exact ⟨_, h.1.mono⟩
  · obtain ⟨_, fp, r, _⟩ := h; exact ⟨fp, r⟩
theorem Ents.trk : ∀ {es : List En} {o : List Addr}, Ents K H S L es o → ∀ a ∈ o, Trk H a
  | [], _, h => by rw [h]; simp
  | e :: es, _, h => by
    obtain ⟨o1, o2, rfl, h1, h2⟩ := h
    intro a ha
    rcases List.mem_append.mp ha with ha | ha
    · exact h1.trk a ha
    · exact Ents.trk h2 a ha
theorem Good.trk (g : Good K H O S L es) : ∀ a, O a → Trk H a := fun a h => by
  obtain ⟨ol, e, _, m⟩ := g.ex
  exact e.trk a ((m a).mpr h)

theorem Go.tab (g : Go O S H O' S' H') (t : ∀ a, O a → Trk H a) (h : ∀ P, Tbl.tb P → LamX.TabS H P QL) : ∀ P, Tbl.tb P → LamX.TabS H' P QL := fun P hP => by
  obtain ⟨ps, e, tr, c⟩ := h P hP
  have nO : ¬ O P := fun z => (t P z).lv.2 ps e
  rcases g.keep P _ e nO with q | ⟨ps1, ps', e1, q, t1, c1⟩
  · exact ⟨ps, q, tr, fun pos cv hc => by
      obtain ⟨c0, a, b⟩ := c pos cv hc
      exact ⟨c0, a, g.code c0 b⟩⟩
  · cases e1
    refine ⟨ps', q, t1 tr, fun pos cv hc => ?_⟩
    rcases c1 pos cv hc with z | z
    · obtain ⟨c0, a, b⟩ := c pos cv z
      exact ⟨c0, a, g.code c0 b⟩
    · exact z
/-- kept by a step that does not own it -/
theorem Go.kp (g : Go O S H O' S' H') (t : ∀ a, O a → Trk H a) {fp : List Addr} (h : ∀ a ∈ fp, ¬ O a) (lv : ∀ a ∈ fp, Lv H a) : Kp fp H H' where
  own := fun a ha => by
    cases q : H a with
    | none => exact absurd q (lv a ha).1
    | some u => exact (g.keep a u q (h a ha)).eq fun ps z => (lv a ha).2 ps (by rw [q, z])
  tup := fun a xs q => (g.keep a _ q fun z => (t a z).notup q).eq fun ps z => nomatch z
  frz := fun a ob u q => (g.keep a _ q fun z => (t a z).nofrz q).eq fun ps z => nomatch z
  oth := fun a u q o => (g.keep a _ q fun z => (t a z).nooth q o).eq fun ps z => by rcases o with ⟨φ, e⟩ | ⟨fs, e⟩ <;> (rw [z] at e; cases e)
theorem Go.trk1 (g : Go O S H O' S' H') {a : Addr} (n : ¬ O a) (t : Trk H a) : Trk H' a := by
  rcases t with ⟨xs, q⟩ | ⟨k, q⟩
  · exact .inl ⟨xs, (g.keep a _ q n).eq fun ps z => nomatch z⟩
  · exact .inr ⟨k, (g.keep a _ q n).eq fun ps z => nomatch z⟩
theorem Ent.go (h : Ent K H S L e own) (g : Go O S H O' S' H') (t : ∀ a, O a → Trk H a) (n : ∀ a ∈ own, ¬ O a) (ns : ∀ a, O a → ¬ S a ∧ ¬ L a) : Ent K H' S' L e own := by
  obtain ⟨v, m, d⟩ := e
  cases m
  · obtain ⟨e, fp, r, h⟩ := h
    exact ⟨e, fp, r.kp (g.kp t (fun a ha z => (ns a z).1 (h a ha)) (rep_lv r)), fun a ha => g.monS a (h a ha)⟩
  · obtain ⟨a, f1, e1, rfl, q, h⟩ := h
    have kk : ∀ {ds vs}, Reps K H ds vs f1 → Reps K H' ds vs f1 := fun r => r.kp (g.kp t (fun b hb z => (ns b z).1 (q b hb)) (reps_lv r))
    refine ⟨a, f1, e1, rfl, fun b hb => g.monS b (q b hb), ?_⟩
    rcases h with ⟨ds, vs, e2, h, r⟩ | ⟨ks, ds, kvs, e2, e3, h, r⟩
    · exact .inl ⟨ds, vs, e2, (g.keep _ _ h (n a (by simp))).eq fun ps z => (nomatch z), kk r⟩
    · exact .inr ⟨ks, ds, kvs, e2, e3, (g.keep _ _ h (n a (by simp))).eq fun ps z => (nomatch z), kk r⟩
  · obtain ⟨r, h⟩ := h
    exact ⟨r.kp (g.kp t n (rep_lv r)), fun a ha => g.trk1 (n a ha) (h a ha)⟩
  · obtain ⟨e, fp, r, h⟩ := h
    exact ⟨e, fp, r.kp (g.kp t (fun a ha z => (h a ha).elim (ns a z).2 (ns a z).1) (rep_lv r)), fun a ha => (h a ha).imp id (g.monS a)⟩
theorem Ents.go : ∀ {es : List En} {o : List Addr}, Ents K H S L es o → Go O S H O' S' H' → (∀ a, O a → Trk H a) → (∀ a ∈ o, ¬ O a) → (∀ a, O a → ¬ S a ∧ ¬ L a) → Ents K H' S' L es o
  | [], _, h, _, _, _, _ => h
  | e :: es, _, h, g, t, n, ns => by
    obtain ⟨o1, o2, rfl, h1, h2⟩ := h
    exact ⟨o1, o2, rfl, h1.go g t (fun a ha => n a (List.mem_append_left _ ha)) ns, Ents.go h2 g t (fun a ha => n a (List.mem_append_right _ ha)) ns⟩

theorem Ents.append : ∀ {es fs : List En} {o q : List Addr}, Ents K H S L es o → Ents K H S L fs q → Ents K H S L (es ++ fs) (o ++ q)
  | [], _, _, _, h, k => by
    have h : _ = [] := h
    subst h; exact k
  | e :: es, _, _, _, h, k => by
    obtain ⟨o1, o2, rfl, h1, h2⟩ := h
    exact ⟨o1, o2 ++ _, by rw [List.append_assoc], h1, Ents.append h2 k⟩
theorem Ents.split : ∀ {es fs : List En} {o : List Addr}, Ents K H S L (es ++ fs) o → ∃ o1 o2, o = o1 ++ o2 ∧ Ents K H S L es o1 ∧ Ents K H S L fs o2
  | [], _, o, h => ⟨[], o, rfl, rfl, h⟩
  | e :: es, _, _, h => by
    obtain ⟨o1, o2, rfl, h1, h2⟩ := h
    obtain ⟨a, b, rfl, k1, k2⟩ := Ents.split h2
    exact ⟨o1 ++ a, b, by rw [List.append_assoc], ⟨o1, a, rfl, h1, k1⟩, k2⟩
theorem Ents.perm {es fs : List En} (p : es.Perm fs) : ∀ {o : List Addr}, Ents K H S L es o → ∃ q, o.Perm q ∧ Ents K H S L fs q := by
  induction p with
  | nil => exact fun {o} h => ⟨o, .refl _, h⟩
  | cons e _ ih =>
    rintro o ⟨o1, o2, rfl, h1, h2⟩
    obtain ⟨q, pq, k⟩ := ih h2
    exact ⟨o1 ++ q, pq.append_left _, o1, q, rfl, h1, k⟩
  | swap a b r =>
    rintro o ⟨o1, o2, rfl, h1, o3, o4, rfl, h2, h3⟩
    refine ⟨o3 ++ (o1 ++ o4), ?_, o3, o1 ++ o4, rfl, h2, o1, o4, rfl, h1, h3⟩
    rw [← List.append_assoc, ← List.append_assoc]
    exact List.perm_append_comm.append_right _
  | trans _ _ i1 i2 =>
    intro o h
    obtain ⟨q, p1, k⟩ := i1 h
    obtain ⟨r, p2, k⟩ := i2 k
    exact ⟨r, p1.trans p2, k⟩
theorem Good.perm (g : Good K H O S L es) (p : es.Perm fs) : Good K H O S L fs := by
  obtain ⟨ol, e, nd, m⟩ := g.ex
  obtain ⟨q, pq, k⟩ := e.perm p
  exact ⟨⟨q, k, pq.nodup_iff.mp nd, fun a => (pq.mem_iff (a := a)).symm.trans (m a)⟩, g.os, g.sl, g.lv, g.tab⟩
/-- into two parts -/
theorem Good.parts (g : Good K H O S L (es ++ fs)) : ∃ O1 O2, Good K H O1 S L es ∧ Good K H O2 S L fs ∧ (∀ a, O a ↔ O1 a ∨ O2 a) ∧ ∀ a, O1 a → ¬ O2 a := by
  obtain ⟨ol, e, nd, m⟩ := g.ex
  obtain ⟨o1, o2, rfl, h1, h2⟩ := e.split
  have nd' := List.nodup_append.mp nd
  have mm : ∀ a, O a ↔ a ∈ o1 ∨ a ∈ o2 := fun a => (m a).symm.trans List.mem_append
  refine ⟨(· ∈ o1), (· ∈ o2), ⟨⟨o1, h1, nd'.1, fun _ => Iff.rfl⟩, fun a h => g.os a ((mm a).mpr (.inl h)), g.sl, g.lv, g.tab⟩, ⟨⟨o2, h2, nd'.2.1, fun _ => Iff.rfl⟩, fun a h => g.os a ((mm a).mpr (.inr h)), g.sl, g.lv, g.tab⟩, mm, fun a h1 h2 => nd'.2.2 a h1 a h2 rfl⟩
theorem Good.join (g : Good K H O1 S L es) (k : Good K H O2 S L fs) (d : ∀ a, O1 a → ¬ O2 a) : Good K H (fun a => O1 a ∨ O2 a) S L (es ++ fs) := by
  obtain ⟨o1, e1, n1, m1⟩ := g.ex
  obtain ⟨o2, e2, n2, m2⟩ := k.ex
  refine ⟨⟨o1 ++ o2, e1.append e2, List.nodup_append.mpr ⟨n1, n2, fun a h1 b h2 z => d a ((m1 a).mp h1) (by rw [z]; exact (m2 b).mp h2)⟩, fun a => List.mem_append.trans (or_congr (m1 a) (m2 a))⟩,
    fun a h => h.elim (g.os a) (k.os a), g.sl, g.lv, g.tab⟩
theorem Good.cong (g : Good K H O S L es) (h : ∀ a, O a ↔ O' a) : Good K H O' S L es := by
  obtain ⟨ol, e, nd, m⟩ := g.ex
  exact ⟨⟨ol, e, nd, fun a => (m a).trans (h a)⟩, fun a q => g.os a ((h a).mpr q), g.sl, g.lv, g.tab⟩
/-- a step of one part; the other part stays -/
theorem Good.frame (g : Good K H O1 S L es) (k : Good K H O2 S L fs) (d : ∀ a, O1 a → ¬ O2 a) {es' : List En} {O1' : Ps} (g' : Good K H' O1' S' L es') (go : Go O1 S H O1' S' H') :
    Good K H' (fun a => O1' a ∨ O2 a) S' L (es' ++ fs) ∧ Go (fun a => O1 a ∨ O2 a) S H (fun a => O1' a ∨ O2 a) S' H' := by
  have n2 : ∀ a, O2 a → ¬ O1 a := fun a h z => d a z h
  obtain ⟨o2, e2, nd2, m2⟩ := k.ex
  have k' : Good K H' O2 S' L fs := by
    refine ⟨⟨o2, e2.go go g.trk (fun a ha => n2 a ((m2 a).mp ha)) g.os, nd2, m2⟩, fun a h => ⟨fun z => ?_, (k.os a h).2⟩, g'.sl, g'.lv, g'.tab⟩
    rcases go.newS a z with z | z | z
    · exact (k.os a h).1 z
    · exact n2 a h z
    · exact (k.trk a h).ne z
  have d' : ∀ a, O1' a → ¬ O2 a := fun a h z => (go.newO a h).elim (fun q => d a q z) (k.trk a z).ne
  refine ⟨g'.join k' d', fun a o h n => go.keep a o h fun z => n (.inl z), go.code, go.live, fun a h => h.elim (fun z => (go.newO a z).elim (fun q => .inl (.inl q)) .inr) fun z => .inl (.inr z), go.monS, fun a h => (go.newS a h).elim .inl fun z => z.elim (fun q => .inr (.inl (.inl q))) fun q => .inr (.inr q)⟩
/-- one is dropped -/
theorem Good.drop (g : Good K H O S L (es ++ fs)) : ∃ O', Good K H O' S L fs ∧ ∀ a, O' a → O a := by
  obtain ⟨O1, O2, _, g2, m, _⟩ := g.parts
  exact ⟨O2, g2, fun a h => (m a).mpr (.inr h)⟩

/-! ### the slots -/
def ents : Ev → L2.St → List En
  | some md :: ev, some v :: σ => (v, md) :: ents ev σ
  | some _ :: ev, none :: σ => ents ev σ
  | none :: ev, _ :: σ => ents ev σ
  | _, _ => []
def Fit : Ev → L2.St → Prop
  | [], [] => True
  | none :: ev, _ :: σ => Fit ev σ
  | some _ :: ev, some _ :: σ => Fit ev σ
  | _, _ => False
theorem Fit.length : ∀ {ev : Ev} {σ : L2.St}, Fit ev σ → ev.length = σ.length
  | [], [], _ => rfl
  | none :: ev, _ :: σ, h => by rw [List.length_cons, List.length_cons, Fit.length (ev := ev) (σ := σ) h]
  | some _ :: ev, some _ :: σ, h => by rw [List.length_cons, List.length_cons, Fit.length (ev := ev) (σ := σ) h]
  | [], _ :: _, h => h.elim
  | none :: _, [], h => h.elim
  | some _ :: _, [], h => h.elim
  | some _ :: _, none :: _, h => h.elim
/-- a slot that is set, taken out -/
theorem fit_get : ∀ {ev : Ev} {σ : L2.St} {i : Nat} {md : MD}, Fit ev σ → ev[i]? = some (some md) → ∃ v, σ[i]? = some (some v) ∧ (ents ev σ).Perm ((v, md) :: ents (ev.set i none) σ) ∧ Fit (ev.set i none) σ
  | some x :: ev, some v :: σ, 0, md, h, e => by
    simp only [List.getElem?_cons_zero, Option.some.injEq] at e
    subst e
    exact ⟨v, rfl, .refl _, h⟩
  | none :: ev, s :: σ, 0, md, h, e => by simp at e
  | some x :: ev, some v :: σ, i + 1, md, h, e => by
    obtain ⟨w, e1, p, f⟩ := fit_get (ev := ev) (σ := σ) (i := i) h (by simpa using e)
    exact ⟨w, by simpa using e1, (p.cons _).trans (.swap _ _ _), f⟩
  | none :: ev, s :: σ, i + 1, md, h, e => by
    obtain ⟨w, e1, p, f⟩ := fit_get (ev := ev) (σ := σ) (i := i) h (by simpa using e)
    exact ⟨w, by simpa using e1, p, f⟩
  | [], _, _, _, _, e => by simp at e
  | some _ :: _, [], _, _, h, _ => h.elim
  | some _ :: _, none :: _, _, _, h, _ => h.elim
  | none :: _, [], _, _, h, _ => h.elim
theorem ents_none : ∀ {ev : Ev} {σ : L2.St} {i : Nat}, Fit ev σ → ∃ q, (ents ev σ).Perm (q ++ ents (ev.set i none) σ) ∧ Fit (ev.set i none) σ := fun {ev σ i} h => by
  cases e : ev[i]? with
  | none =>
    have : ev.set i none = ev := List.set_eq_of_length_le (List.getElem?_eq_none_iff.mp e)
    rw [this]; exact ⟨[], .refl _, h⟩
  | some s =>
    cases s with
    | none =>
      have : ev.set i none = ev := by
        obtain ⟨hl, q⟩ := List.getElem?_eq_some_iff.mp e
        apply List.ext_getElem (by simp)
        intro n h1 h2
        by_cases z : i = n
        · subst z; simp [q]
        · simp [z]
      rw [this]; exact ⟨[], .refl _, h⟩
    | some md =>
      obtain ⟨v, _, p, f⟩ := fit_get h e
      exact ⟨[(v, md)], p, f⟩
/-- a slot is stored -/
theorem fit_set : ∀ {ev : Ev} {σ : L2.St} {i : Nat} {md : MD} {v : V}, Fit ev σ → i < ev.length → (ents (ev.set i (some md)) (σ.set i (some v))).Perm ((v, md) :: ents (ev.set i none) σ) ∧ Fit (ev.set i (some md)) (σ.set i (some v))
  | s :: ev, [], _, _, _, h, _ => by cases s <;> exact h.elim
  | some x :: ev, none :: σ, _, _, _, h, _ => h.elim
  | some x :: ev, some w :: σ, 0, md, v, h, _ => ⟨.refl _, h⟩
  | none :: ev, s :: σ, 0, md, v, h, _ => ⟨.refl _, h⟩
  | some x :: ev, some w :: σ, i + 1, md, v, h, l => by
    obtain ⟨p, f⟩ := fit_set (ev := ev) (σ := σ) (i := i) (md := md) (v := v) h (by simpa using l)
    exact ⟨(p.cons _).trans (.swap _ _ _), f⟩
  | none :: ev, s :: σ, i + 1, md, v, h, l => by
    obtain ⟨p, f⟩ := fit_set (ev := ev) (σ := σ) (i := i) (md := md) (v := v) h (by simpa using l)
    exact ⟨p, f⟩
  | [], _, _, _, _, _, l => by simp at l
/-- a slot gets another right to what it holds -/
theorem fit_put : ∀ {ev : Ev} {σ : L2.St} {i : Nat} {md : MD} {v : V}, Fit ev σ → i < ev.length → σ[i]? = some (some v) → (ents (ev.set i (some md)) σ).Perm ((v, md) :: ents (ev.set i none) σ) ∧ Fit (ev.set i (some md)) σ := fun {ev σ i md v} h l e => by
  have := fit_set (ev := ev) (σ := σ) (i := i) (md := md) (v := v) h l
  have q : σ.set i (some v) = σ := by
    obtain ⟨hl, q⟩ := List.getElem?_eq_some_iff.mp e
    apply List.ext_getElem (by simp)
    intro n h1 h2
    by_cases z : i = n
    · subst z; simp [q]
    · simp [z]
  rw [q] at this
  exact this
end
/-- the slots of P hold what they held; what is lent there behind was lent there before -/
def LkS (P : Nat → Prop) (ev : Ev) (σ : L2.St) (ew : Ev) (τ : L2.St) : Prop := ∀ j, P j → τ[j]? = σ[j]? ∧ ∀ d : D, ew[j]? = some (some (Md.lk, d)) → ev[j]? = some (some (Md.lk, d))
section
variable {P P' : Nat → Prop} {ev : Ev} {σ : L2.St} {i : Nat} {s : Option MD}
theorem LkS.refl (ev : Ev) (σ : L2.St) : LkS P ev σ ev σ := fun _ _ => ⟨rfl, fun _ h => h⟩
theorem LkS.trans {a b c : Ev} {σ τ ρ : L2.St} (h : LkS P a σ b τ) (k : LkS P b τ c ρ) : LkS P a σ c ρ := fun j p => ⟨(k j p).1.trans (h j p).1, fun d q => (h j p).2 d ((k j p).2 d q)⟩
theorem LkS.sub {ew : Ev} {τ : L2.St} (h : LkS P ev σ ew τ) (s : ∀ j, P' j → P j) : LkS P' ev σ ew τ := fun j p => h j (s j p)
theorem LkS.set {x : Option V} (h : ¬ P i) : LkS P ev σ (ev.set i s) (σ.set i x) := fun j p => by
  have e : i ≠ j := fun z => h (by rw [z]; exact p)
  exact ⟨List.getElem?_set_ne e, fun d q => by rwa [List.getElem?_set_ne e] at q⟩
theorem LkS.put (h : ∀ d, s ≠ some (Md.lk, d)) : LkS P ev σ (ev.set i s) σ := fun j _ => ⟨rfl, fun d q => by
  by_cases e : i = j
  · subst e
    by_cases l : i < ev.length
    · rw [List.getElem?_set_self l] at q
      exact absurd (Option.some.inj q) (h d)
    · rw [List.getElem?_eq_none (by simpa using l)] at q; cases q
  · rwa [List.getElem?_set_ne e] at q⟩
end
end T6

namespace T6
open PySem PySem.Spec PyProof.Rows L2
variable [Tbl]

/-- how a piece ends: with a value, with an exception (its class's name, what it bears), or not told -/
inductive Rs (α : Type) where
  | ok (a : α) (ev : Ev) | ex (c : Str) (p : Option MD) (ev : Ev) | no
@[inline] def Rs.bind {α β : Type} (x : Rs α) (f : α → Ev → Rs β) : Rs β := match x with
  | .ok a ev => f a ev
  | .ex c p ev => .ex c p ev
  | .no => .no

/-- a look: a flat thing, or a part of what slot i holds (t: all of it) -/
inductive Pv where
  | fl (d : D) | vw (i : Nat) (t : Bool) (d : D)
def Pv.d : Pv → D
  | .fl d => d
  | .vw _ _ d => d

structure Pst (K : Cs) (L : Ps) (P : Nat → Prop) (σ : L2.St) (ev : Ev) (O S : Ps) (H : Hp) (rs : List MD) (ev' : Ev) (vs : List V) (τ : L2.St) (O' S' : Ps) (H' : Hp) : Prop where
  fit : Fit ev' τ
  lk : LkS P ev σ ev' τ
  len : vs.length = rs.length
  nl : ∀ r ∈ rs, r.1 ≠ Md.lk
  good : Good K H' O' S' L (vs.zip rs ++ ents ev' τ)
  go : Go O S H O' S' H'

/-- what is told of an exception that leaves -/
def XOk (mg : Str → Option Value) (c : Str) (p : Option MD) (H : Hp) (cls : Value) (dd : Option Addr) (rs : List MD) (vs : List V) : Prop :=
  mg c = some cls ∧ match p with
  | none => dd = none ∧ rs = [] ∧ vs = []
  | some md => ∃ q v, dd = some q ∧ H q = some (.xd [("at", v)]) ∧ rs = [md] ∧ vs = [v]

section
variable (K : Cs) (mg : Str → Option Value)
def PvOk (H : Hp) (S L : Ps) (ev : Ev) (σ : L2.St) : Pv → V → Prop
  | .fl d, v => flat d = true ∧ Rep K H d v []
  | .vw i t d, v => ∃ (v0 : V) (m : Md) (d0 : D), σ[i]? = some (some v0) ∧ ev[i]? = some (some (m, d0)) ∧ (t = true → v = v0 ∧ d = d0) ∧ (∃ fp, Rep K H d v fp) ∧ match m with
    | .sh => ∃ fp, Rep K H d v fp ∧ ∀ a ∈ fp, S a
    | .lk => ∃ fp, Rep K H d v fp ∧ ∀ a ∈ fp, L a ∨ S a
    | .rt => t = false → ∃ fp, Rep K H d v fp ∧ ∀ a ∈ fp, S a
    | .dp => ∃ fp f0, Rep RF H d v fp ∧ Rep RF H d0 v0 f0 ∧ ∀ a ∈ fp, a ∈ f0
def tP (f : Ev → Option Pv) : TE := fun σ H Q => ∃ ev O S L, Fit ev σ ∧ Good K H O S L (ents ev σ) ∧ ∃ p, f ev = some p ∧ ∀ v, PvOk K H S L ev σ p v → Q v H
def tB1 (f : Ev → Option Bool) : TT := fun σ H Q => ∃ ev O S L, Fit ev σ ∧ Good K H O S L (ents ev σ) ∧ ∃ b, f ev = some b ∧ Q b H
/-- what follows a piece -/
def Aft {α : Type} (σ : L2.St) (ev : Ev) (O S L : Ps) (H : Hp) (W : WX) (x : Rs α) (k : α → Ev → Prop) : Prop := match x with
  | .ok a ev' => k a ev'
  | .ex c p ev' => ∀ cls dd rs vs H' O' S', Pst K L (fun _ => True) σ ev O S H rs ev' vs σ O' S' H' → XOk mg c p H' cls dd rs vs → W cls dd σ H'
  | .no => False
def tE (W : WX) (f : Ev → Rs MD) : TE := fun σ H Q => ∃ ev O S L, Fit ev σ ∧ Good K H O S L (ents ev σ) ∧
  Aft K mg σ ev O S L H W (f ev) fun r ev' => ∀ v H' O' S', Pst K L (fun _ => True) σ ev O S H [r] ev' [v] σ O' S' H' → Q v H'
def tAs (W : WX) (f : Ev → Rs (List MD)) : TA := fun σ H Q => ∃ ev O S L, Fit ev σ ∧ Good K H O S L (ents ev σ) ∧
  Aft K mg σ ev O S L H W (f ev) fun rs ev' => ∀ vs H' O' S', Pst K L (fun _ => True) σ ev O S H rs ev' vs σ O' S' H' → Q vs H'
/-- a test by a piece that may do things -/
def tBM (W : WX) (f : Ev → Rs Bool) : TT := fun σ H Q => ∃ ev O S L, Fit ev σ ∧ Good K H O S L (ents ev σ) ∧
  Aft K mg σ ev O S L H W (f ev) fun b ev' => ∀ H' O' S', Pst K L (fun _ => True) σ ev O S H [] ev' [] σ O' S' H' → Q b H'
end

section
variable {K : Cs} {mg : Str → Option Value} {X : Cx} {W : WX} {e : Expr} {H H' H1 H2 : Hp} {O O' O1 O2 S S' S1 S2 L : Ps} {σ : L2.St} {ev ev1 ev2 : Ev} {pos : Pos}
theorem pe_weak {t t' : TE} (h : PE X e t) (w : ∀ σ H Q, t' σ H Q → t σ H Q) : PE X e t' := ⟨fun pins s σ H Q I q => h.run pins s σ H Q I (w σ H Q q)⟩
theorem pt_weak {t t' : TT} (h : PT X e t) (w : ∀ σ H Q, t' σ H Q → t σ H Q) : PT X e t' := ⟨fun pins s σ H Q I q => h.run pins s σ H Q I (w σ H Q q)⟩
theorem pw_weak {t t' : TT} (h : PW X e t) (w : ∀ σ H Q, t' σ H Q → t σ H Q) : PW X e t' := ⟨fun wh pins s σ H Q I q => h.run wh pins s σ H Q I (w σ H Q q)⟩
theorem pa_weak {es : List Expr} {t t' : TA} (h : PA X es t) (w : ∀ σ H Q, t' σ H Q → t σ H Q) : PA X es t' := ⟨fun p pins s σ H Q I q => h.run p pins s σ H Q I (w σ H Q q)⟩
theorem ps_weak {st : Stmt} {t t' : TS} (h : PS X st t) (w : ∀ D σ H, t' D σ H → t D σ H) : PS X st t' := ⟨fun pins s σ H D I q => h.run pins s σ H D I (w D σ H q)⟩
theorem pss_weak {st : List Stmt} {t t' : TS} (h : PSs X st t) (w : ∀ D σ H, t' D σ H → t D σ H) : PSs X st t' := ⟨fun pins s σ H D I q => h.run pins s σ H D I (w D σ H q)⟩

/-- the tree of a slot -/
theorem good_ent {e : En} {es : List En} (g : Good K H O S L (e :: es)) : ∃ own, Ent K H S L e own := by
  obtain ⟨ol, ⟨o1, o2, _, h, _⟩, _⟩ := g.ex
  exact ⟨o1, h⟩
theorem slot_ent {i : Nat} {md : MD} (f : Fit ev σ) (g : Good K H O S L (ents ev σ)) (e : ev[i]? = some (some md)) : ∃ v own, σ[i]? = some (some v) ∧ Ent K H S L (v, md) own := by
  obtain ⟨v, e1, p, _⟩ := fit_get f e
  obtain ⟨o, h⟩ := good_ent (g.perm p)
  exact ⟨v, o, e1, h⟩
theorem pv_rep {p : Pv} {v : V} (h : PvOk K H S L ev σ p v) : ∃ fp, Rep K H p.d v fp := by
  cases p with
  | fl d => exact ⟨[], h.2⟩
  | vw i t d =>
    obtain ⟨_, _, _, _, _, _, r, _⟩ := h
    exact r

/-! ### looks -/
def pName (i : Nat) : Ev → Option Pv := fun ev => match ev[i]? with
  | some (some (_, d)) => some (.vw i true d)
  | _ => none
def pC (d : D) : Ev → Option Pv := fun _ => some (.fl d)
theorem r_name {i : Nat} {x : Str} (h : PE X (.Name x pos) (tVar i)) : PE X (.Name x pos) (tP K (pName i)) := pe_weak h fun σ H Q => by
  rintro ⟨ev, O, S, L, f, g, p, hp, q⟩
  unfold pName at hp
  split at hp
  · rename_i m d e
    cases hp
    obtain ⟨v, own, e1, r⟩ := slot_ent f g e
    refine ⟨v, e1, q v ⟨v, m, d, e1, e, fun _ => ⟨rfl, rfl⟩, r.rep, ?_⟩⟩
    cases m
    · exact r.2
    · intro z; cases z
    · exact ⟨own, own, r.1, r.1, fun _ h => h⟩
    · exact r.2
  · cases hp
theorem r_c {d : D} {v : V} (h : PE X e (tC v)) (r : ∀ H, Rep K H d v []) (fl : flat d = true) : PE X e (tP K (pC d)) := pe_weak h fun σ H Q => by
  rintro ⟨ev, O, S, L, f, g, p, hp, q⟩
  cases hp
  exact q v ⟨fl, r H⟩
theorem r_int {i j} : PE X (.Constant (.int i) j pos) (tP K (pC (.int i))) := r_c pe_int (fun _ => ⟨rfl, rfl⟩) rfl
theorem r_bl {b j} : PE X (.Constant (.bool b) j pos) (tP K (pC (.bl b))) := r_c pe_bl (fun _ => ⟨rfl, rfl⟩) rfl
theorem r_non {j} : PE X (.Constant .none j pos) (tP K (pC .non)) := r_c pe_non (fun _ => ⟨rfl, rfl⟩) rfl
theorem r_str {x j} : PE X (.Constant (.str x) j pos) (tP K (pC (.str x))) := r_c pe_str (fun _ => ⟨rfl, rfl⟩) rfl

/-- an operation that reads, and gives a flat thing -/
def Pr2 (K : Cs) (r : R2) (g : D → D → Option D) : Prop :=
  ∀ H x y d1 d2 d f1 f2 Q, Rep K H d1 x f1 → Rep K H d2 y f2 → g d1 d2 = some d → (∀ v, flat d = true → Rep K H d v [] → Q v H) → r x y H Q
def Pr1 (K : Cs) (r : V → Hp → VK → Prop) (g : D → Option D) : Prop :=
  ∀ H x d1 d f1 Q, Rep K H d1 x f1 → g d1 = some d → (∀ v, flat d = true → Rep K H d v [] → Q v H) → r x H Q
def p2 (g : D → D → Option D) (f h : Ev → Option Pv) : Ev → Option Pv := fun ev => match f ev, h ev with
  | some a, some b => (g a.d b.d).map .fl
  | _, _ => none
def p1 (g : D → Option D) (f : Ev → Option Pv) : Ev → Option Pv := fun ev => match f ev with
  | some a => (g a.d).map .fl
  | _ => none
theorem p2_weak {r : R2} {g : D → D → Option D} {f h : Ev → Option Pv} (P : Pr2 K r g) : ∀ σ H Q, tP K (p2 g f h) σ H Q → tOp r (tP K f) (tP K h) σ H Q := fun σ H Q => by
  rintro ⟨ev, O, S, L, ft, gd, p, hp, q⟩
  unfold p2 at hp
  split at hp
  · rename_i a b ha hb
    obtain ⟨d, hd, rfl⟩ := Option.map_eq_some_iff.mp hp
    refine ⟨ev, O, S, L, ft, gd, a, ha, fun x hx => ⟨ev, O, S, L, ft, gd, b, hb, fun y hy => ?_⟩⟩
    obtain ⟨f1, r1⟩ := pv_rep hx
    obtain ⟨f2, r2⟩ := pv_rep hy
    exact P H x y _ _ d f1 f2 Q r1 r2 hd fun v fl rv => q v ⟨fl, rv⟩
  · cases hp
theorem p1_weak {r : V → Hp → VK → Prop} {g : D → Option D} {f : Ev → Option Pv} (P : Pr1 K r g) : ∀ σ H Q, tP K (p1 g f) σ H Q → tUn r (tP K f) σ H Q := fun σ H Q => by
  rintro ⟨ev, O, S, L, ft, gd, p, hp, q⟩
  unfold p1 at hp
  split at hp
  · rename_i a ha
    obtain ⟨d, hd, rfl⟩ := Option.map_eq_some_iff.mp hp
    refine ⟨ev, O, S, L, ft, gd, a, ha, fun x hx => ?_⟩
    obtain ⟨f1, r1⟩ := pv_rep hx
    exact P H x _ d f1 Q r1 hd fun v fl rv => q v ⟨fl, rv⟩
  · cases hp
variable {a b : Expr} {f h : Ev → Option Pv}
theorem r_op {op : Operator} {r : R2} {g : D → D → Option D} (ho : OpR X (binaryOp op) r) (P : Pr2 K r g) (ha : PE X a (tP K f)) (hb : PE X b (tP K h)) : PE X (.BinOp a op b pos) (tP K (p2 g f h)) := pe_weak (pe_op ho ha hb) (p2_weak P)
theorem r_un {op : UnaryOp} {r : V → Hp → VK → Prop} {g : D → Option D} (ho : UnR X (unaryOp op) r) (P : Pr1 K r g) (ha : PE X a (tP K f)) : PE X (.UnaryOp op a pos) (tP K (p1 g f)) := pe_weak (pe_un ho ha) (p1_weak P)
theorem r_cmp {op : CmpOp} {r : R2} {g : D → D → Option D} (ho : OpR X (compareOp op) r) (P : Pr2 K r g) (ha : PE X a (tP K f)) (hb : PE X b (tP K h)) (hm : behindInMarks op b = false) : PE X (.Compare a [op] [b] pos) (tP K (p2 g f h)) := pe_weak (pe_cmpR ho ha hb hm) (p2_weak P)
end
end T6

namespace T6
open PySem PySem.Spec PyProof.Rows L2
variable [Tbl]

/-! ### data of the library -/
mutual
def toPy : D → PyData
  | .non => .none
  | .bl b => .bool b
  | .int i => .int i
  | .str x => .str x
  | .tup ds => .tuple (toPys ds)
  | .lst ds => .list (toPys ds)
  | .dct _ _ => .dict []
  | .err _ _ => .dict []
def toPys : List D → List PyData
  | [] => []
  | d :: ds => toPy d :: toPys ds
end
section
variable {K : PySem.W.Frag} {H : Hp}
theorem sq_of {a : Addr} {vs : List V} {f1 fp : List Addr} (q : (Rd H a (.lst vs) ∧ fp = a :: f1) ∨ (KL K a vs ∧ fp = f1)) : SqL K H a vs := q.elim (fun z => .inl z.1) fun z => .inr z.1
mutual
theorem rep_dp : ∀ {d : D} {v : V} {fp : List Addr}, (toPy d).canLay0 = true → Rep (KL K) H d v fp → Dp K H v (toPy d)
  | .non, _, _, _, h => by rw [h.1]; exact .non
  | .bl b, _, _, _, h => by rw [h.1]; exact .bl b
  | .int b, _, _, _, h => by rw [h.1]; exact .int b
  | .str b, _, _, _, h => by rw [h.1]; exact .str b
  | .tup ds, _, _, c, h => by
    obtain ⟨a, vs, rfl, q, r⟩ := h
    exact .tup (.inl q) (reps_dp (by simpa [toPy, PyData.canLay0] using c) r)
  | .lst ds, _, _, c, h => by
    obtain ⟨a, vs, f1, rfl, r, q⟩ := h
    exact .lst (sq_of q) (reps_dp (by simpa [toPy, PyData.canLay0] using c) r)
  | .dct _ _, _, _, c, _ => by simp [toPy, PyData.canLay0] at c
  | .err _ _, _, _, c, _ => by simp [toPy, PyData.canLay0] at c
theorem reps_dp : ∀ {ds : List D} {vs : List V} {fp : List Addr}, PyData.canLayAll0 (toPys ds) = true → Reps (KL K) H ds vs fp → DpAll K H vs (toPys ds)
  | [], _, _, _, h => by rw [h.1]; exact .nil
  | d :: ds, _, _, c, h => by
    obtain ⟨v, vs', f1, f2, rfl, _, r1, r2⟩ := h
    have c' : (toPy d).canLay0 = true ∧ PyData.canLayAll0 (toPys ds) = true := by simpa [toPys, PyData.canLayAll0] using c
    exact .cons (rep_dp c'.1 r1) (reps_dp c'.2 r2)
end
theorem toPys_map : ∀ ds : List D, toPys ds = ds.map toPy
  | [] => rfl
  | d :: ds => by rw [toPys, toPys_map ds]; rfl
end

/-! ### operations -/
def gAdd : D → D → Option D
  | .int i, .int j => some (.int (i + j))
  | .str a, .str b => if a.length + b.length ≤ sizeLine then some (.str (a ++ b)) else none
  | _, _ => none
def gSub : D → D → Option D
  | .int i, .int j => some (.int (i - j))
  | _, _ => none
def MulOk (i j : Int) : Prop := (-(2 ^ 64) < i ∧ i < 2 ^ 64) ∨ (-(2 ^ 64) < j ∧ j < 2 ^ 64) ∨ i.natAbs.log2 + j.natAbs.log2 < 1000000
/-- kept shut, so that nobody counts to 2 ^ 64 -/
noncomputable def mulOk (i j : Int) : Bool := @decide (MulOk i j) (Classical.propDecidable _)
theorem mulOk_iff {i j : Int} : mulOk i j = true ↔ MulOk i j := by unfold mulOk; exact @decide_eq_true_iff _ (Classical.propDecidable _)
noncomputable def gMul : D → D → Option D
  | .int i, .int j => if mulOk i j = true then some (.int (i * j)) else none
  | _, _ => none
def gDiv : D → D → Option D
  | .int i, .int j => if 0 < j ∧ j.natAbs.log2 < 9000 then some (.int (i / j)) else none
  | _, _ => none
def gMod : D → D → Option D
  | .int i, .int j => if 0 < j then some (.int (i % j)) else none
  | _, _ => none
def gPow : D → D → Option D
  | .int i, .int j => if 0 ≤ j ∧ j ≤ 1000000 ∧ i.natAbs < 2 ^ 64 then some (.int (i ^ j.toNat)) else none
  | _, _ => none
def gLt : D → D → Option D
  | .int i, .int j => some (.bl (decide (i < j)))
  | _, _ => none
def gLe : D → D → Option D
  | .int i, .int j => some (.bl (decide (i ≤ j)))
  | _, _ => none
def gGt : D → D → Option D
  | .int i, .int j => some (.bl (decide (j < i)))
  | _, _ => none
def gGe : D → D → Option D
  | .int i, .int j => some (.bl (decide (j ≤ i)))
  | _, _ => none
def gNeg : D → Option D
  | .int i => some (.int (-i))
  | _ => none
def eqD (d e : D) : Bool := PyData.eqv (toPy d) (toPy e)
def gEq : D → D → Option D
  | .int i, .int j => some (.bl (decide (i = j)))
  | .str a, .str b => some (.bl (decide (a = b)))
  | .bl a, .bl b => some (.bl (decide (a = b)))
  | .non, .non => some (.bl true)
  | .str _, .int _ => some (.bl false)
  | .int _, .str _ => some (.bl false)
  | .str _, .bl _ => some (.bl false)
  | .bl _, .str _ => some (.bl false)
  | .str _, .non => some (.bl false)
  | .non, .str _ => some (.bl false)
  | d, e => if SeqAt.shaped (toPy d) = true ∧ SeqAt.shaped (toPy e) = true then some (.bl (eqD d e)) else none
def gNot : D → Option D
  | .bl b => some (.bl (!b))
  | _ => none
def gNe (d e : D) : Option D := (gEq d e).bind gNot
def isNon : D → Bool
  | .non => true
  | _ => false
def gIsN (d e : D) : Option D := match e with
  | .non => some (.bl (isNon d))
  | _ => none
def gNotN (d e : D) : Option D := (gIsN d e).bind gNot
def flatS : D → Bool
  | .non => true
  | .bl _ => true
  | .int _ => true
  | .str _ => true
  | _ => false
def eqS : D → D → Bool
  | .non, .non => true
  | .bl a, .bl b => a == b
  | .bl a, .int b => (if a then 1 else 0) == b
  | .int a, .bl b => a == (if b then 1 else 0)
  | .int a, .int b => a == b
  | .str a, .str b => a == b
  | _, _ => false
def gIn (d e : D) : Option D := match e with
  | .lst es => if flatS d = true ∧ es.all flatS = true then some (.bl (es.any fun y => eqS y d))
      else if SeqAt.shaped (toPy d) = true ∧ SeqAt.shaped (toPy (.lst es)) = true then some (.bl (es.any fun y => eqD y d)) else none
  | .tup es => if flatS d = true ∧ es.all flatS = true then some (.bl (es.any fun y => eqS y d)) else none
  | .str b => match d with
    | .str a => some (.bl (!(Builtin.Str.occurrences b a 0 b.length 1).isEmpty))
    | _ => none
  | _ => none
def gNotIn (d e : D) : Option D := (gIn d e).bind gNot
def gLen : D → Option D
  | .lst ds => some (.int ds.length)
  | .tup ds => some (.int ds.length)
  | .str x => if x.length ≤ sizeLine then some (.int x.length) else none
  | _ => none
def gInt : D → Option D
  | .int i => some (.int i)
  | .bl k => some (.int (if k then 1 else 0))
  | _ => none
def gStr : D → Option D
  | .int i => if i.natAbs.log2 < 1920 then some (.str (toString i)) else none
  | _ => none
def gMin : D → D → Option D
  | .int i, .int j => some (.int (if j < i then j else i))
  | _, _ => none
def gMax : D → D → Option D
  | .int i, .int j => some (.int (if j > i then j else i))
  | _, _ => none
def intsOf : List D → Option (List Int)
  | [] => some []
  | .int i :: ds => (intsOf ds).map (i :: ·)
  | _ :: _ => none
def blsOf : List D → Option (List Bool)
  | [] => some []
  | .bl i :: ds => (blsOf ds).map (i :: ·)
  | _ :: _ => none
def gSum : D → Option D
  | .lst ds => (intsOf ds).map fun ns => .int ns.sum
  | _ => none
def gAll : D → Option D
  | .lst ds => (blsOf ds).map fun bs => .bl (bs.all id)
  | _ => none
/-- is it of the built-in class T -/
def isT (T : String) : D → Bool
  | .non => false
  | .bl _ => T == "bool" || T == "int"
  | .int _ => T == "int"
  | .str _ => T == "str"
  | .tup _ => T == "tuple"
  | .lst _ => T == "list"
  | .dct _ _ => T == "dict"
  | .err _ _ => false

section
variable {K : PySem.W.Frag} {X : Cx} {H : Hp}
theorem Pr2.or {r r' : R2} {g g' : D → D → Option D} (h : Pr2 (KL K) r g) (h' : Pr2 (KL K) r' g') : Pr2 (KL K) (fun x y H Q => r x y H Q ∨ r' x y H Q) (fun d e => (g d e).or (g' d e)) := by
  intro H x y d1 d2 d f1 f2 Q r1 r2 hd q
  dsimp only at hd
  cases e : g d1 d2 with
  | some z =>
    rw [e] at hd
    simp only [Option.some_or, Option.some.injEq] at hd
    subst hd
    exact .inl (h H x y d1 d2 z f1 f2 Q r1 r2 e q)
  | none =>
    rw [e] at hd
    simp only [Option.none_or] at hd
    exact .inr (h' H x y d1 d2 d f1 f2 Q r1 r2 hd q)
theorem rep_int {i : Int} {v : V} {fp : List Addr} (h : Rep (KL K) H (.int i) v fp) : v = .int i := h.1
theorem rep_str {i : Str} {v : V} {fp : List Addr} (h : Rep (KL K) H (.str i) v fp) : v = .str i := h.1
theorem rep_bl {i : Bool} {v : V} {fp : List Addr} (h : Rep (KL K) H (.bl i) v fp) : v = .bl i := h.1
theorem rep_non {v : V} {fp : List Addr} (h : Rep (KL K) H .non v fp) : v = .non := h.1
/-- two ints to an int or a truth -/
theorem pr_int {C : Int → Int → Prop} {k : Int → Int → V} {c : Int → Int → D} {g : D → D → Option D} (hv : ∀ i j H, Rep (KL K) H (c i j) (k i j) [] ∧ flat (c i j) = true)
    (hg : ∀ d e z, g d e = some z → ∃ i j, d = .int i ∧ e = .int j ∧ C i j ∧ z = c i j) : Pr2 (KL K) (rI C k) g := by
  intro H x y d1 d2 d f1 f2 Q r1 r2 hd q
  obtain ⟨i, j, rfl, rfl, hc, rfl⟩ := hg _ _ _ hd
  exact ⟨i, j, rep_int r1, rep_int r2, hc, q _ (hv i j H).2 (hv i j H).1⟩
theorem pr_int0 {k : Int → Int → V} {c : Int → Int → D} {g : D → D → Option D} (hv : ∀ i j H, Rep (KL K) H (c i j) (k i j) [] ∧ flat (c i j) = true)
    (hg : ∀ d e z, g d e = some z → ∃ i j, d = .int i ∧ e = .int j ∧ z = c i j) : Pr2 (KL K) (rI0 k) g := by
  intro H x y d1 d2 d f1 f2 Q r1 r2 hd q
  obtain ⟨i, j, rfl, rfl, rfl⟩ := hg _ _ _ hd
  exact ⟨i, j, rep_int r1, rep_int r2, q _ (hv i j H).2 (hv i j H).1⟩

def rAddA : R2 := fun x y H Q => rI0 (fun i j => .int (i + j)) x y H Q ∨ (∃ i j, x = .str i ∧ y = .str j ∧ i.length + j.length ≤ sizeLine ∧ Q (.str (i ++ j)) H)
theorem o_add : OpR X (binaryOp .Add) rAddA := op_add.or op_add_str
theorem pr_add : Pr2 (KL K) rAddA gAdd := by
  intro H x y d1 d2 d f1 f2 Q r1 r2 hd q
  unfold gAdd at hd
  split at hd
  · rename_i i j
    cases hd
    exact .inl ⟨i, j, rep_int r1, rep_int r2, q _ rfl ⟨rfl, rfl⟩⟩
  · rename_i i j
    split at hd
    · rename_i hz
      cases hd
      exact .inr ⟨i, j, rep_str r1, rep_str r2, hz, q _ rfl ⟨rfl, rfl⟩⟩
    · cases hd
  · cases hd
theorem pr_sub : Pr2 (KL K) (rI0 fun i j => .int (i - j)) gSub := pr_int0 (c := fun i j => .int (i - j)) (fun _ _ _ => ⟨⟨rfl, rfl⟩, rfl⟩) fun d e z h => by
  unfold gSub at h; split at h
  · cases h; exact ⟨_, _, rfl, rfl, rfl⟩
  · cases h
def CMulA (i j : Int) : Prop := mulOk i j = true
theorem o_mul : OpR X (binaryOp .Mult) (rI CMulA fun i j => .int (i * j)) := opI fun i j _ _ _ _ _ hc q => by
  rcases mulOk_iff.mp hc with h | h | h
  · exact mul_int q (CMul.ok (.inl h))
  · exact mul_int q (CMul.ok (.inr h))
  · exact mul_int q (CMulW.ok h)
theorem pr_mul : Pr2 (KL K) (rI CMulA fun i j => .int (i * j)) gMul := pr_int (c := fun i j => .int (i * j)) (fun _ _ _ => ⟨⟨rfl, rfl⟩, rfl⟩) fun d e z h => by
  unfold gMul at h; split at h
  · split at h
    · rename_i hz; cases h; exact ⟨_, _, rfl, rfl, hz, rfl⟩
    · cases h
  · cases h
theorem pr_div : Pr2 (KL K) (rI CDivW fun i j => .int (i / j)) gDiv := pr_int (c := fun i j => .int (i / j)) (fun _ _ _ => ⟨⟨rfl, rfl⟩, rfl⟩) fun d e z h => by
  unfold gDiv at h; split at h
  · split at h
    · rename_i hz; cases h; exact ⟨_, _, rfl, rfl, hz, rfl⟩
    · cases h
  · cases h
theorem pr_mod : Pr2 (KL K) (rI (fun _ j => 0 < j) fun i j => .int (i % j)) gMod := pr_int (c := fun i j => .int (i % j)) (fun _ _ _ => ⟨⟨rfl, rfl⟩, rfl⟩) fun d e z h => by
  unfold gMod at h; split at h
  · split at h
    · rename_i hz; cases h; exact ⟨_, _, rfl, rfl, hz, rfl⟩
    · cases h
  · cases h
theorem pr_pow : Pr2 (KL K) (rI CPow fun i j => .int (i ^ j.toNat)) gPow := pr_int (c := fun i j => .int (i ^ j.toNat)) (fun _ _ _ => ⟨⟨rfl, rfl⟩, rfl⟩) fun d e z h => by
  unfold gPow at h; split at h
  · split at h
    · rename_i hz; cases h; exact ⟨_, _, rfl, rfl, hz, rfl⟩
    · cases h
  · cases h
theorem pr_lt : Pr2 (KL K) (rI0 fun i j => .bl (decide (i < j))) gLt := pr_int0 (c := fun i j => .bl (decide (i < j))) (fun _ _ _ => ⟨⟨rfl, rfl⟩, rfl⟩) fun d e z h => by
  unfold gLt at h; split at h
  · cases h; exact ⟨_, _, rfl, rfl, rfl⟩
  · cases h
theorem pr_le : Pr2 (KL K) (rI0 fun i j => .bl (decide (i ≤ j))) gLe := pr_int0 (c := fun i j => .bl (decide (i ≤ j))) (fun _ _ _ => ⟨⟨rfl, rfl⟩, rfl⟩) fun d e z h => by
  unfold gLe at h; split at h
  · cases h; exact ⟨_, _, rfl, rfl, rfl⟩
  · cases h
theorem pr_gt : Pr2 (KL K) (rI0 fun i j => .bl (decide (j < i))) gGt := pr_int0 (c := fun i j => .bl (decide (j < i))) (fun _ _ _ => ⟨⟨rfl, rfl⟩, rfl⟩) fun d e z h => by
  unfold gGt at h; split at h
  · cases h; exact ⟨_, _, rfl, rfl, rfl⟩
  · cases h
theorem pr_ge : Pr2 (KL K) (rI0 fun i j => .bl (decide (j ≤ i))) gGe := pr_int0 (c := fun i j => .bl (decide (j ≤ i))) (fun _ _ _ => ⟨⟨rfl, rfl⟩, rfl⟩) fun d e z h => by
  unfold gGe at h; split at h
  · cases h; exact ⟨_, _, rfl, rfl, rfl⟩
  · cases h
theorem pr_neg : Pr1 (KL K) (rU fun i => .int (-i)) gNeg := by
  intro H x d1 d f1 Q r1 hd q
  unfold gNeg at hd
  split at hd
  · cases hd; exact ⟨_, rep_int r1, q _ rfl ⟨rfl, rfl⟩⟩
  · cases hd
def rEqA (K : PySem.W.Frag) : R2 := fun x y H Q => rEq x y H Q ∨ rEqD K x y H Q
def rNeA (K : PySem.W.Frag) : R2 := fun x y H Q => rNe x y H Q ∨ rNeD K x y H Q
theorem o_eq (hu : X.A.units + 64 < cLine) : OpR X (compareOp .Eq) (rEqA X.K) := op_eq.or (op_eqD hu)
theorem o_ne (hu : X.A.units + 64 < cLine) : OpR X (compareOp .NotEq) (rNeA X.K) := op_ne.or (op_neD hu)
theorem eq_core {x y : V} {d1 d2 d : D} {f1 f2 : List Addr} (r1 : Rep (KL K) H d1 x f1) (r2 : Rep (KL K) H d2 y f2) (hd : gEq d1 d2 = some d) :
    ∃ b, d = .bl b ∧ ((scal x y = true ∧ decide (x = y) = b) ∨ ∃ p q, Dp K H x p ∧ Dp K H y q ∧ SeqAt.shaped p = true ∧ SeqAt.shaped q = true ∧ PyData.eqv p q = b) := by
  unfold gEq at hd
  split at hd
  case h_11 =>
    split at hd
    · rename_i hz
      cases hd
      exact ⟨_, rfl, .inr ⟨_, _, rep_dp (SeqAt.canLay_of_shaped hz.1) r1, rep_dp (SeqAt.canLay_of_shaped hz.2) r2, hz.1, hz.2, rfl⟩⟩
    · cases hd
  all_goals
    cases hd
    refine ⟨_, rfl, .inl ?_⟩
    first
      | rw [rep_int r1, rep_int r2]; exact ⟨rfl, by simp⟩
      | rw [rep_str r1, rep_str r2]; exact ⟨rfl, by simp⟩
      | rw [rep_bl r1, rep_bl r2]; exact ⟨rfl, by simp⟩
      | rw [rep_non r1, rep_non r2]; exact ⟨rfl, by simp⟩
      | rw [rep_str r1, rep_int r2]; exact ⟨rfl, by simp⟩
      | rw [rep_int r1, rep_str r2]; exact ⟨rfl, by simp⟩
      | rw [rep_str r1, rep_bl r2]; exact ⟨rfl, by simp⟩
      | rw [rep_bl r1, rep_str r2]; exact ⟨rfl, by simp⟩
      | rw [rep_str r1, rep_non r2]; exact ⟨rfl, by simp⟩
      | rw [rep_non r1, rep_str r2]; exact ⟨rfl, by simp⟩
theorem pr_eq : Pr2 (KL K) (rEqA K) gEq := by
  intro H x y d1 d2 d f1 f2 Q r1 r2 hd q
  obtain ⟨b, rfl, h⟩ := eq_core r1 r2 hd
  have q' := q (.bl b) rfl ⟨rfl, rfl⟩
  rcases h with ⟨s, e⟩ | ⟨p, p', h1, h2, s1, s2, e⟩
  · exact .inl ⟨s, by rw [e]; exact q'⟩
  · exact .inr ⟨p, p', h1, h2, s1, s2, by rw [e]; exact q'⟩
theorem pr_ne : Pr2 (KL K) (rNeA K) gNe := by
  intro H x y d1 d2 d f1 f2 Q r1 r2 hd q
  unfold gNe at hd
  obtain ⟨z, hz, hn⟩ := Option.bind_eq_some_iff.mp hd
  obtain ⟨b, rfl, h⟩ := eq_core r1 r2 hz
  cases hn
  have q' := q (.bl !b) rfl ⟨rfl, rfl⟩
  rcases h with ⟨s, e⟩ | ⟨p, p', h1, h2, s1, s2, e⟩
  · exact .inl ⟨s, by rw [e]; exact q'⟩
  · exact .inr ⟨p, p', h1, h2, s1, s2, by rw [e]; exact q'⟩
theorem non_core {x : V} {d1 : D} {f1 : List Addr} (r1 : Rep (KL K) H d1 x f1) : decide (x = .non) = isNon d1 := by
  cases d1
  case non => rw [rep_non r1]; rfl
  case bl b => rw [rep_bl r1]; rfl
  case int b => rw [rep_int r1]; rfl
  case str b => rw [rep_str r1]; rfl
  case tup b => obtain ⟨a, vs, rfl, _⟩ := r1; rfl
  case lst b => obtain ⟨a, vs, f, rfl, _⟩ := r1; rfl
  case dct b c => obtain ⟨a, vs, f, rfl, _⟩ := r1; rfl
  case err b c => obtain ⟨rfl, _, a, od, vs, rfl, _⟩ := r1; rfl
theorem pr_isN : Pr2 (KL K) (fun x y H Q => y = .non ∧ Q (.bl (decide (x = .non))) H) gIsN := by
  intro H x y d1 d2 d f1 f2 Q r1 r2 hd q
  unfold gIsN at hd
  split at hd
  · cases hd
    rw [non_core r1]
    exact ⟨rep_non r2, q _ rfl ⟨rfl, rfl⟩⟩
  · cases hd
theorem pr_notN : Pr2 (KL K) (fun x y H Q => y = .non ∧ Q (.bl (!decide (x = .non))) H) gNotN := by
  intro H x y d1 d2 d f1 f2 Q r1 r2 hd q
  unfold gNotN gIsN at hd
  split at hd
  · cases hd
    rw [non_core r1]
    exact ⟨rep_non r2, q _ rfl ⟨rfl, rfl⟩⟩
  · cases hd
end
end T6

namespace T6
open PySem PySem.Spec PyProof.Rows L2
variable [Tbl]
section
variable {K : PySem.W.Frag} {C : Cs} {mg : Str → Option Value} {X : Cx} {W : WX} {e : Expr} {H H' H1 H2 : Hp} {O O' O1 O2 S S' S1 S2 L : Ps} {σ : L2.St} {ev ev1 ev2 : Ev} {pos : Pos}
/-! ### in -/
theorem rp_int {i : Int} {v : V} {fp : List Addr} (h : Rep C H (.int i) v fp) : v = .int i := h.1
theorem rp_str {i : Str} {v : V} {fp : List Addr} (h : Rep C H (.str i) v fp) : v = .str i := h.1
theorem rp_bl {i : Bool} {v : V} {fp : List Addr} (h : Rep C H (.bl i) v fp) : v = .bl i := h.1
theorem rp_non {v : V} {fp : List Addr} (h : Rep C H .non v fp) : v = .non := h.1
theorem rep_flatS {d : D} {v : V} {fp : List Addr} (f : flatS d = true) (r : Rep C H d v fp) : flatV v = true := by
  cases d <;> simp only [flatS, Bool.false_eq_true] at f
  · rw [rp_non r]; rfl
  · rw [rp_bl r]; rfl
  · rw [rp_int r]; rfl
  · rw [rp_str r]; rfl
theorem reps_flatS : ∀ {ds : List D} {vs : List V} {fp : List Addr}, ds.all flatS = true → Reps C H ds vs fp → vs.all flatV = true
  | [], _, _, _, h => by rw [h.1]; rfl
  | d :: ds, _, _, f, h => by
    obtain ⟨v, vs', f1, f2, rfl, _, r1, r2⟩ := h
    simp only [List.all_cons, Bool.and_eq_true] at f ⊢
    exact ⟨rep_flatS f.1 r1, reps_flatS f.2 r2⟩
theorem eqS_eqV {d e : D} {v w : V} {f1 f2 : List Addr} (a : flatS d = true) (b : flatS e = true) (r : Rep C H d v f1) (q : Rep C H e w f2) : eqV v w = eqS d e := by
  cases d <;> simp only [flatS, Bool.false_eq_true] at a <;> cases e <;> simp only [flatS, Bool.false_eq_true] at b
  all_goals
    first
      | rw [rp_non r] | rw [rp_bl r] | rw [rp_int r] | rw [rp_str r]
    first
      | rw [rp_non q] | rw [rp_bl q] | rw [rp_int q] | rw [rp_str q]
    rfl
theorem any_eqS {d : D} {v : V} {f1 : List Addr} (a : flatS d = true) (r : Rep C H d v f1) : ∀ {ds : List D} {vs : List V} {fp : List Addr}, ds.all flatS = true → Reps C H ds vs fp → inV v vs = ds.any fun y => eqS y d
  | [], _, _, _, h => by rw [h.1]; rfl
  | x :: ds, _, _, f, h => by
    obtain ⟨w, vs', f1, f2, rfl, _, r1, r2⟩ := h
    simp only [List.all_cons, Bool.and_eq_true] at f
    have ih := any_eqS a r f.2 r2
    unfold inV at ih ⊢
    rw [List.any_cons, List.any_cons, ih, eqS_eqV f.1 a r1 r]
theorem any_py {d : D} : ∀ es : List D, (toPys es).any (fun z => PyData.eqv z (toPy d)) = es.any fun y => eqD y d
  | [] => rfl
  | x :: es => by rw [toPys, List.any_cons, List.any_cons, any_py es]; rfl
def rInA (K : PySem.W.Frag) : R2 := fun x y H Q => rIn K false x y H Q ∨ rInD K x y H Q ∨ ∃ i j, x = .str i ∧ y = .str j ∧ Q (.bl (!(Builtin.Str.occurrences j i 0 j.length 1).isEmpty)) H
def rNotInA (K : PySem.W.Frag) : R2 := fun x y H Q => rIn K true x y H Q ∨ rNotInD K x y H Q ∨ ∃ i j, x = .str i ∧ y = .str j ∧ Q (.bl (!(!(Builtin.Str.occurrences j i 0 j.length 1).isEmpty))) H
theorem o_in (hu : X.A.units + 65 < cLine) : OpR X (compareOp .In) (rInA X.K) := op_in_seq.or ((op_inD hu).or op_in_str)
theorem o_notIn (hu : X.A.units + 65 < cLine) : OpR X (compareOp .NotIn) (rNotInA X.K) := op_notIn_seq.or ((op_notInD hu).or op_notin_str)
theorem inA_core {x y : V} {d1 d2 d : D} {f1 f2 : List Addr} (r1 : Rep (KL K) H d1 x f1) (r2 : Rep (KL K) H d2 y f2) (hd : gIn d1 d2 = some d) :
    ∃ b, d = .bl b ∧ ((∃ p xs, y = .ref p ∧ (SqL K H p xs ∨ SqT K H p xs) ∧ flatV x = true ∧ xs.all flatV = true ∧ inV x xs = b) ∨
      (∃ p ds, Dp K H x p ∧ Dp K H y (.list ds) ∧ SeqAt.shaped p = true ∧ SeqAt.shaped (.list ds) = true ∧ (ds.any fun z => PyData.eqv z p) = b) ∨
      ∃ i j, x = .str i ∧ y = .str j ∧ (!(Builtin.Str.occurrences j i 0 j.length 1).isEmpty) = b) := by
  unfold gIn at hd
  split at hd
  · rename_i es
    split at hd
    · rename_i hz
      cases hd
      obtain ⟨a, vs, f, rfl, rs, q⟩ := r2
      exact ⟨_, rfl, .inl ⟨a, vs, rfl, .inl (sq_of q), rep_flatS hz.1 r1, reps_flatS hz.2 rs, any_eqS hz.1 r1 hz.2 rs⟩⟩
    · split at hd
      · rename_i hz
        cases hd
        exact ⟨_, rfl, .inr (.inl ⟨toPy d1, toPys es, rep_dp (SeqAt.canLay_of_shaped hz.1) r1, rep_dp (d := .lst es) (SeqAt.canLay_of_shaped hz.2) r2, hz.1, hz.2, any_py es⟩)⟩
      · cases hd
  · rename_i es
    split at hd
    · rename_i hz
      cases hd
      obtain ⟨a, vs, rfl, q, rs⟩ := r2
      exact ⟨_, rfl, .inl ⟨a, vs, rfl, .inr (.inl q), rep_flatS hz.1 r1, reps_flatS hz.2 rs, any_eqS hz.1 r1 hz.2 rs⟩⟩
    · cases hd
  · split at hd
    · cases hd
      exact ⟨_, rfl, .inr (.inr ⟨_, _, rp_str r1, rp_str r2, rfl⟩)⟩
    · cases hd
  · cases hd
theorem pr_in : Pr2 (KL K) (rInA K) gIn := by
  intro H x y d1 d2 d f1 f2 Q r1 r2 hd q
  obtain ⟨b, rfl, h⟩ := inA_core r1 r2 hd
  have q' := q (.bl b) rfl ⟨rfl, rfl⟩
  rcases h with ⟨p, xs, h1, h2, h3, h4, h5⟩ | ⟨p, ds, h1, h2, h3, h4, h5⟩ | ⟨i, j, h1, h2, h5⟩
  · exact .inl ⟨p, xs, h1, h2, h3, h4, by rw [if_neg (by decide), h5]; exact q'⟩
  · exact .inr (.inl ⟨p, ds, h1, h2, h3, h4, by rw [h5]; exact q'⟩)
  · exact .inr (.inr ⟨i, j, h1, h2, by rw [h5]; exact q'⟩)
theorem pr_notIn : Pr2 (KL K) (rNotInA K) gNotIn := by
  intro H x y d1 d2 d f1 f2 Q r1 r2 hd q
  unfold gNotIn at hd
  obtain ⟨z, hz, hn⟩ := Option.bind_eq_some_iff.mp hd
  obtain ⟨b, rfl, h⟩ := inA_core r1 r2 hz
  cases hn
  have q' := q (.bl !b) rfl ⟨rfl, rfl⟩
  rcases h with ⟨p, xs, h1, h2, h3, h4, h5⟩ | ⟨p, ds, h1, h2, h3, h4, h5⟩ | ⟨i, j, h1, h2, h5⟩
  · exact .inl ⟨p, xs, h1, h2, h3, h4, by rw [if_pos rfl, h5]; exact q'⟩
  · exact .inr (.inl ⟨p, ds, h1, h2, h3, h4, by rw [h5]; exact q'⟩)
  · exact .inr (.inr ⟨i, j, h1, h2, by rw [h5]; exact q'⟩)

/-! ### built-ins of one, of two things -/
abbrev RL := List V → Hp → VK → Prop
def PrL1 (C : Cs) (r : RL) (g : D → Option D) : Prop := ∀ H x d1 d f1 Q, Rep C H d1 x f1 → g d1 = some d → (∀ v, flat d = true → Rep C H d v [] → Q v H) → r [x] H Q
def PrL2 (C : Cs) (r : RL) (g : D → D → Option D) : Prop := ∀ H x y d1 d2 d f1 f2 Q, Rep C H d1 x f1 → Rep C H d2 y f2 → g d1 d2 = some d → (∀ v, flat d = true → Rep C H d v [] → Q v H) → r [x, y] H Q
theorem prl_len : PrL1 (KL K) (fun xs H Q => ∃ x n, xs = [x] ∧ LenV K x H n ∧ Q (.int n) H) gLen := by
  intro H x d1 d f1 Q r hd q
  unfold gLen at hd
  split at hd
  · cases hd
    obtain ⟨a, vs, f, rfl, rs, z⟩ := r
    exact ⟨_, _, rfl, .inl ⟨vs, sq_of z, rs.length.symm⟩, q _ rfl ⟨rfl, rfl⟩⟩
  · cases hd
    obtain ⟨a, vs, rfl, z, rs⟩ := r
    exact ⟨_, _, rfl, .inr ⟨vs, .inl z, rs.length.symm⟩, q _ rfl ⟨rfl, rfl⟩⟩
  · split at hd
    · rename_i hz
      cases hd
      rw [rp_str r]
      exact ⟨_, _, rfl, ⟨hz, rfl⟩, q _ rfl ⟨rfl, rfl⟩⟩
    · cases hd
  · cases hd
theorem prl_int : PrL1 (KL K) (fun xs H Q => (∃ i, xs = [.int i] ∧ Q (.int i) H) ∨ ∃ k, xs = [.bl k] ∧ Q (.int (if k then 1 else 0)) H) gInt := by
  intro H x d1 d f1 Q r hd q
  unfold gInt at hd
  split at hd
  · cases hd; rw [rp_int r]; exact .inl ⟨_, rfl, q _ rfl ⟨rfl, rfl⟩⟩
  · cases hd; rw [rp_bl r]; exact .inr ⟨_, rfl, q _ rfl ⟨rfl, rfl⟩⟩
  · cases hd
theorem prl_str : PrL1 (KL K) (fun xs H Q => ∃ i, xs = [.int i] ∧ i.natAbs.log2 < 1920 ∧ Q (.str (toString i)) H) gStr := by
  intro H x d1 d f1 Q r hd q
  unfold gStr at hd
  split at hd
  · split at hd
    · rename_i hz; cases hd; rw [rp_int r]; exact ⟨_, rfl, hz, q _ rfl ⟨rfl, rfl⟩⟩
    · cases hd
  · cases hd
theorem prl_min : PrL2 (KL K) (fun xs H Q => ∃ i j, xs = [.int i, .int j] ∧ Q (.int (if j < i then j else i)) H) gMin := by
  intro H x y d1 d2 d f1 f2 Q r1 r2 hd q
  unfold gMin at hd
  split at hd
  · cases hd; rw [rp_int r1, rp_int r2]; exact ⟨_, _, rfl, q _ rfl ⟨rfl, rfl⟩⟩
  · cases hd
theorem prl_max : PrL2 (KL K) (fun xs H Q => ∃ i j, xs = [.int i, .int j] ∧ Q (.int (if j > i then j else i)) H) gMax := by
  intro H x y d1 d2 d f1 f2 Q r1 r2 hd q
  unfold gMax at hd
  split at hd
  · cases hd; rw [rp_int r1, rp_int r2]; exact ⟨_, _, rfl, q _ rfl ⟨rfl, rfl⟩⟩
  · cases hd
theorem reps_ints : ∀ {ds : List D} {vs : List V} {fp : List Addr} {ns : List Int}, Reps C H ds vs fp → intsOf ds = some ns → vs = ns.map V.int
  | [], _, _, ns, h, e => by cases e; rw [h.1]; rfl
  | d :: ds, _, _, ns, h, e => by
    obtain ⟨v, vs', f1, f2, rfl, _, r1, r2⟩ := h
    unfold intsOf at e
    split at e
    · rename_i heq; cases heq
    · rename_i heq
      cases heq
      obtain ⟨ms, e2, rfl⟩ := Option.map_eq_some_iff.mp e
      rw [rp_int r1, reps_ints r2 e2]; rfl
    · cases e
theorem reps_bls : ∀ {ds : List D} {vs : List V} {fp : List Addr} {ns : List Bool}, Reps C H ds vs fp → blsOf ds = some ns → vs = ns.map V.bl
  | [], _, _, ns, h, e => by cases e; rw [h.1]; rfl
  | d :: ds, _, _, ns, h, e => by
    obtain ⟨v, vs', f1, f2, rfl, _, r1, r2⟩ := h
    unfold blsOf at e
    split at e
    · rename_i heq; cases heq
    · rename_i heq
      cases heq
      obtain ⟨ms, e2, rfl⟩ := Option.map_eq_some_iff.mp e
      rw [rp_bl r1, reps_bls r2 e2]; rfl
    · cases e
theorem prl_sum : PrL1 (KL K) (rSum K) gSum := by
  intro H x d1 d f1 Q r hd q
  unfold gSum at hd
  split at hd
  · obtain ⟨ns, e, rfl⟩ := Option.map_eq_some_iff.mp hd
    obtain ⟨a, vs, f, rfl, rs, z⟩ := r
    have := reps_ints rs e
    subst this
    exact ⟨a, ns, rfl, sq_of z, q _ rfl ⟨rfl, rfl⟩⟩
  · cases hd
theorem prl_all : PrL1 (KL K) (rAll K) gAll := by
  intro H x d1 d f1 Q r hd q
  unfold gAll at hd
  split at hd
  · obtain ⟨ns, e, rfl⟩ := Option.map_eq_some_iff.mp hd
    obtain ⟨a, vs, f, rfl, rs, z⟩ := r
    have := reps_bls rs e
    subst this
    exact ⟨a, ns, rfl, sq_of z, q _ rfl ⟨rfl, rfl⟩⟩
  · cases hd
/-- isinstance(x, T) -/
def tyN : D → String
  | .non => "NoneType" | .bl _ => "bool" | .int _ => "int" | .str _ => "str" | .tup _ => "tuple" | .lst _ => "list" | .dct _ _ => "dict" | .err _ _ => ""
def isErr : D → Bool
  | .err _ _ => true
  | _ => false
theorem rep_ty {d : D} {x : V} {fp : List Addr} (ne : isErr d = false) (r : Rep (KL K) H d x fp) : TyX K H x (.type (tyN d)) := by
  cases d
  case non => rw [rp_non r]; exact .base .non
  case bl b => rw [rp_bl r]; exact .base (.bl b)
  case int b => rw [rp_int r]; exact .base (.int b)
  case str b => rw [rp_str r]; exact .base (.str b)
  case tup b =>
    obtain ⟨a, vs, rfl, (q | ⟨o, q⟩), _⟩ := r
    · exact .base (.tup q)
    · exact .fTuple q
  case lst b =>
    obtain ⟨a, vs, f, rfl, _, (⟨(q | ⟨o, q⟩), _⟩ | ⟨⟨o, its, n, q, c, _⟩, _⟩)⟩ := r
    · exact .base (.lst q)
    · exact .base (.frz q)
    · exact .kList q c
  case dct b c =>
    obtain ⟨a, vs, f, rfl, _, _, (q | ⟨o, q⟩), _⟩ := r
    · exact .base (.dK q)
    · exact .fDict q
  case err b c => cases ne
theorem prl_isi {T : String} (hT : T ∈ ["int", "bool", "list", "tuple", "str"]) : ∀ H x d1 f1 Q, isErr d1 = false → Rep (KL K) H d1 x f1 → Q (.bl (isT T d1)) H → rIsi K [x, .ty T] H Q := by
  intro H x d1 f1 Q ne r q
  refine ⟨x, .ty T, _, _, isT T d1, rfl, .ty T, rep_ty ne r, kit_ty ?_, q⟩
  simp only [List.mem_cons, List.not_mem_nil, or_false] at hT
  rcases hT with rfl | rfl | rfl | rfl | rfl <;> cases d1 <;> first | (cases ne; done) | (dsimp only [tyN, isT]; decide +kernel)
end
end T6

namespace T6
open PySem PySem.Spec PyProof.Rows L2
variable [Tbl]
def Pv.sub : Pv → D → Pv
  | .fl _, x => .fl x
  | .vw i _ _, x => .vw i false x
def pIx (f h : Ev → Option Pv) : Ev → Option Pv := fun ev => match f ev, h ev with
  | some a, some k => match a.d, k.d with
    | .lst ds, .int i => (atI ds i).map a.sub
    | .tup ds, .int i => (atI ds i).map a.sub
    | .str s, .int i => if s.length ≤ sizeLine then (atI s.cps.toList i).map fun c => .fl (.str ⟨#[c]⟩) else none
    | _, _ => none
  | _, _ => none
def pB (f : Ev → Option Pv) : Ev → Option Bool := fun ev => match f ev with
  | some p => match p.d with
    | .bl b => some b
    | _ => none
  | _ => none
def bNot (f : Ev → Option Bool) : Ev → Option Bool := fun ev => (f ev).map (!·)
def bAnd (f h : Ev → Option Bool) : Ev → Option Bool := fun ev => match f ev with
  | some true => h ev
  | some false => some false
  | none => none
def bOr (f h : Ev → Option Bool) : Ev → Option Bool := fun ev => match f ev with
  | some true => some true
  | some false => h ev
  | none => none
def pOf (f : Ev → Option Bool) : Ev → Option Pv := fun ev => (f ev).map fun b => .fl (.bl b)
def pIf (c : Ev → Option Bool) (f h : Ev → Option Pv) : Ev → Option Pv := fun ev => match c ev with
  | some true => f ev
  | some false => h ev
  | none => none
/-- a op b op' c -/
def bChain (g g' : D → D → Option D) (f h k : Ev → Option Pv) : Ev → Option Bool := fun ev => match f ev, h ev with
  | some a, some b => match g a.d b.d with
    | some (.bl true) => match k ev with
      | some c => match g' b.d c.d with
        | some (.bl z) => some z
        | _ => none
      | none => none
    | some (.bl false) => some false
    | _ => none
  | _, _ => none
section
variable {K : PySem.W.Frag} {C : Cs} {mg : Str → Option Value} {X : Cx} {W : WX} {a b e : Expr} {H H' H1 H2 : Hp} {O O' O1 O2 S S' S1 S2 L : Ps} {σ : L2.St} {ev ev1 ev2 : Ev} {pos : Pos} {f h k : Ev → Option Pv}
theorem flat_get : ∀ {ds : List D} {i : Nat} {x : D}, flats ds = true → ds[i]? = some x → flat x = true
  | [], _, _, _, e => by simp at e
  | d :: ds, 0, x, f, e => by
    simp only [flats, Bool.and_eq_true] at f
    simp only [List.getElem?_cons_zero, Option.some.injEq] at e
    rw [← e]; exact f.1
  | d :: ds, i + 1, x, f, e => by
    simp only [flats, Bool.and_eq_true] at f
    exact flat_get f.2 (by simpa using e)
theorem reps_flat0 {ds : List D} {vs : List V} {f : List Addr} (fl : flats ds = true) (r : Reps C H ds vs f) : Reps C H ds vs [] := by
  have := reps_flat fl r
  rw [this] at r; exact r
theorem rep_flat0 {d : D} {v : V} {f : List Addr} (fl : flat d = true) (r : Rep C H d v f) : Rep C H d v [] := by
  have := rep_flat fl r
  rw [this] at r; exact r
/-- the parts of what is looked at -/
theorem pv_kids {p : Pv} {v : V} {ds : List D} (ft : Fit ev σ) (gd : Good C H O S L (ents ev σ)) (h : PvOk C H S L ev σ p v) (hd : p.d = .lst ds ∨ p.d = .tup ds) :
    ∃ a vs, v = .ref a ∧ ((p.d = .lst ds ∧ (Rd H a (.lst vs) ∨ C a vs)) ∨ (p.d = .tup ds ∧ Rd H a (.tup vs))) ∧ vs.length = ds.length ∧ ∀ (j : Nat) (x : D), ds[j]? = some x → ∃ w, vs[j]? = some w ∧ PvOk C H S L ev σ (p.sub x) w := by
  -- from a reading of it
  have go : ∀ {C' : Cs} {fp : List Addr}, Rep C' H p.d v fp → (∀ x y, C' x y → C x y) → (∀ (x : D) (w : V) (f : List Addr), Rep C' H x w f → (∀ z ∈ f, z ∈ fp) → PvOk C H S L ev σ (p.sub x) w) →
      ∃ a vs, v = .ref a ∧ ((p.d = .lst ds ∧ (Rd H a (.lst vs) ∨ C a vs)) ∨ (p.d = .tup ds ∧ Rd H a (.tup vs))) ∧ vs.length = ds.length ∧ ∀ (j : Nat) (x : D), ds[j]? = some x → ∃ w, vs[j]? = some w ∧ PvOk C H S L ev σ (p.sub x) w := by
    intro C' fp r hc q
    rcases hd with hd | hd
    · rw [hd] at r
      obtain ⟨a, vs, f1, rfl, rs, z⟩ := r
      refine ⟨a, vs, rfl, .inl ⟨hd, z.elim (fun z => .inl z.1) fun z => .inr (hc _ _ z.1)⟩, rs.length, fun j x e => ?_⟩
      obtain ⟨w, f, e1, r1, s1⟩ := rs.get e
      refine ⟨w, e1, q x w f r1 fun y hy => ?_⟩
      rcases z with ⟨_, rfl⟩ | ⟨_, rfl⟩
      · exact List.mem_cons_of_mem _ (s1 y hy)
      · exact s1 y hy
    · rw [hd] at r
      obtain ⟨a, vs, rfl, z, rs⟩ := r
      refine ⟨a, vs, rfl, .inr ⟨hd, z⟩, rs.length, fun j x e => ?_⟩
      obtain ⟨w, f, e1, r1, s1⟩ := rs.get e
      exact ⟨w, e1, q x w f r1 s1⟩
  cases p with
  | fl d =>
    obtain ⟨fl, r⟩ := h
    have hd' : d = .lst ds ∨ d = .tup ds := hd
    rcases hd' with rfl | rfl
    · simp [flat] at fl
    · obtain ⟨a, vs, rfl, z, rs⟩ := r
      refine ⟨a, vs, rfl, .inr ⟨rfl, z⟩, rs.length, fun j x e => ?_⟩
      obtain ⟨w, f, e1, r1, s1⟩ := rs.get e
      have fx : flat x = true := flat_get (by simpa [flat] using fl) e
      exact ⟨w, e1, fx, rep_flat0 fx r1⟩
  | vw i t d =>
    obtain ⟨v0, m, d0, e0, e1, et, hr, h⟩ := h
    cases m with
    | sh =>
      obtain ⟨fp, r, s⟩ := h
      exact go r (fun _ _ z => z) fun x w f r1 s1 => ⟨v0, .sh, d0, e0, e1, (fun z => nomatch z), ⟨f, r1⟩, f, r1, fun z hz => s z (s1 z hz)⟩
    | lk =>
      obtain ⟨fp, r, s⟩ := h
      exact go r (fun _ _ z => z) fun x w f r1 s1 => ⟨v0, .lk, d0, e0, e1, (fun z => nomatch z), ⟨f, r1⟩, f, r1, fun z hz => s z (s1 z hz)⟩
    | dp =>
      obtain ⟨fp, f0, r, r0, s⟩ := h
      exact go r (fun _ _ z => z.elim) fun x w f r1 s1 => ⟨v0, .dp, d0, e0, e1, (fun z => nomatch z), ⟨f, r1.mono⟩, f, f0, r1, r0, fun z hz => s z (s1 z hz)⟩
    | rt =>
      cases t with
      | false =>
        obtain ⟨fp, r, s⟩ := h rfl
        exact go r (fun _ _ z => z) fun x w f r1 s1 => ⟨v0, .rt, d0, e0, e1, (fun z => nomatch z), ⟨f, r1⟩, fun _ => ⟨f, r1, fun z hz => s z (s1 z hz)⟩⟩
      | true =>
        obtain ⟨rfl, rfl⟩ := et rfl
        obtain ⟨v1, own, e2, a, f1, ea, _, q, z⟩ := slot_ent ft gd e1
        rw [e0] at e2; cases e2
        have ea : v = .ref a := ea
        rcases z with ⟨ds', vs, ed, hH, rs⟩ | ⟨ks, ds', kvs, ed, _⟩
        · have ed : d = .lst ds' := ed
          have : ds' = ds := by
            rcases hd with hd | hd
            · have hd : d = .lst ds := hd
              rw [ed] at hd; cases hd; rfl
            · have hd : d = .tup ds := hd
              rw [ed] at hd; cases hd
          subst this
          refine ⟨a, vs, ea, .inl ⟨ed, .inl (.inl hH)⟩, rs.length, fun j x e => ?_⟩
          obtain ⟨w, f, e3, r1, s1⟩ := rs.get e
          exact ⟨w, e3, v, .rt, d, e0, e1, (fun z => nomatch z), ⟨f, r1⟩, fun _ => ⟨f, r1, fun z hz => q z (s1 z hz)⟩⟩
        · have ed : d = .dct ks ds' := ed
          rcases hd with hd | hd
          · have hd : d = .lst ds := hd
            rw [ed] at hd; cases hd
          · have hd : d = .tup ds := hd
            rw [ed] at hd; cases hd
theorem atI_len {α β : Type} {xs : List α} {ys : List β} (hl : ys.length = xs.length) {i : Int} {x : α} (h : atI xs i = some x) : ∃ j : Nat, xs[j]? = some x ∧ ∀ y, ys[j]? = some y → atI ys i = some y := by
  unfold atI at h ⊢
  obtain ⟨j, hj, hx⟩ := Option.bind_eq_some_iff.mp h
  exact ⟨j, hx, fun y hy => by rw [hl, hj]; exact hy⟩
theorem pIx_weak : ∀ σ H Q, tP (KL K) (pIx f h) σ H Q → tOp (rIx K) (tP (KL K) f) (tP (KL K) h) σ H Q := fun σ H Q => by
  rintro ⟨ev, O, S, L, ft, gd, p, hp, q⟩
  unfold pIx at hp
  split at hp
  · rename_i a k ha hk
    refine ⟨ev, O, S, L, ft, gd, a, ha, fun x hx => ⟨ev, O, S, L, ft, gd, k, hk, fun y hy => ?_⟩⟩
    obtain ⟨f1, r1⟩ := pv_rep hx
    obtain ⟨f2, r2⟩ := pv_rep hy
    split at hp
    · rename_i ds i ea ek
      obtain ⟨z, hz, rfl⟩ := Option.map_eq_some_iff.mp hp
      rw [ek] at r2
      obtain ⟨c, vs, rfl, (⟨_, hs⟩ | ⟨e, _⟩), hl, g⟩ := pv_kids ft gd hx (.inl ea)
      · obtain ⟨j, hj, g2⟩ := atI_len hl hz
        obtain ⟨w, hw, ok⟩ := g j z hj
        exact .inl ⟨c, vs, i, w, rfl, rep_int r2, hs, g2 w hw, q w ok⟩
      · rw [ea] at e; cases e
    · rename_i ds i ea ek
      obtain ⟨z, hz, rfl⟩ := Option.map_eq_some_iff.mp hp
      rw [ek] at r2
      obtain ⟨c, vs, rfl, (⟨e, _⟩ | ⟨_, hs⟩), hl, g⟩ := pv_kids ft gd hx (.inr ea)
      · rw [ea] at e; cases e
      · obtain ⟨j, hj, g2⟩ := atI_len hl hz
        obtain ⟨w, hw, ok⟩ := g j z hj
        exact .inr (.inl ⟨c, vs, i, w, rfl, rep_int r2, .inl hs, g2 w hw, q w ok⟩)
    · rename_i z i ea ek
      split at hp
      · rename_i hz
        obtain ⟨c, hc, rfl⟩ := Option.map_eq_some_iff.mp hp
        rw [ea] at r1
        rw [ek] at r2
        exact .inr (.inr ⟨z, i, c, rp_str r1, rep_int r2, hz, hc, q _ ⟨rfl, rfl, rfl⟩⟩)
      · cases hp
    · cases hp
  · cases hp
theorem r_ix (ha : PE X a (tP (KL X.K) f)) (hb : PE X b (tP (KL X.K) h)) (hs : PlainIx b) : PE X (.Subscript a b pos) (tP (KL X.K) (pIx f h)) := pe_weak (pe_ix ix_seq ha hb hs) pIx_weak

/-! ### tests -/
theorem b_of {t : TE} (w : ∀ σ H Q, tP C f σ H Q → t σ H Q) : ∀ σ H Q, tB1 C (pB f) σ H Q → tTest t σ H Q := fun σ H Q => by
  rintro ⟨ev, O, S, L, ft, gd, b, hb, q⟩
  unfold pB at hb
  split at hb
  · rename_i p hp
    split at hb
    · rename_i c hc
      cases hb
      refine w σ H _ ⟨ev, O, S, L, ft, gd, p, hp, fun v hv => ?_⟩
      obtain ⟨fp, r⟩ := pv_rep hv
      rw [hc] at r
      exact ⟨_, rp_bl r, q⟩
    · cases hb
  · cases hb
theorem t_cmp {op : CmpOp} {r : R2} {g : D → D → Option D} (ho : OpR X (compareOp op) r) (P : Pr2 C r g) (ha : PE X a (tP C f)) (hb : PE X b (tP C h)) (hm : behindInMarks op b = false) : PT X (.Compare a [op] [b] pos) (tB1 C (pB (p2 g f h))) :=
  pt_weak (pt_cmpR ho ha hb hm) (b_of (p2_weak P))
theorem t_val (h : PE X e (tP C f)) (he : ∀ whole, isTrue e X.env whole = (do let v ← whole; standAt e.pos; holding [v] (truthy v)) := by intro _; rfl) : PT X e (tB1 C (pB f)) :=
  pt_weak (pt_val h he) (b_of fun _ _ _ z => z)
variable {c d : Ev → Option Bool}
theorem t_not (ha : PT X a (tB1 C c)) : PT X (.UnaryOp .Not a pos) (tB1 C (bNot c)) := pt_weak (pt_not ha) fun σ H Q => by
  rintro ⟨ev, O, S, L, ft, gd, b, hb, q⟩
  obtain ⟨z, hz, rfl⟩ := Option.map_eq_some_iff.mp hb
  exact ⟨ev, O, S, L, ft, gd, z, hz, q⟩
theorem t_and {rest : List Expr} (ha : PT X a (tB1 C c)) (hb : PW X (.BoolOp .And (b :: rest) pos) (tB1 C d)) : PW X (.BoolOp .And (a :: b :: rest) pos) (tB1 C (bAnd c d)) := pw_weak (pw_and ha hb) fun σ H Q => by
  rintro ⟨ev, O, S, L, ft, gd, b, hb, q⟩
  unfold bAnd at hb
  split at hb
  · rename_i hc; exact ⟨ev, O, S, L, ft, gd, true, hc, iteT <| ⟨ev, O, S, L, ft, gd, b, hb, q⟩⟩
  · rename_i hc; cases hb; exact ⟨ev, O, S, L, ft, gd, false, hc, iteF <| q⟩
  · cases hb
theorem t_or {rest : List Expr} (ha : PT X a (tB1 C c)) (hb : PW X (.BoolOp .Or (b :: rest) pos) (tB1 C d)) : PW X (.BoolOp .Or (a :: b :: rest) pos) (tB1 C (bOr c d)) := pw_weak (pw_or ha hb) fun σ H Q => by
  rintro ⟨ev, O, S, L, ft, gd, b, hb, q⟩
  unfold bOr at hb
  split at hb
  · rename_i hc; cases hb; exact ⟨ev, O, S, L, ft, gd, true, hc, iteT <| q⟩
  · rename_i hc; exact ⟨ev, O, S, L, ft, gd, false, hc, iteF <| ⟨ev, O, S, L, ft, gd, b, hb, q⟩⟩
  · cases hb
theorem t_and1 (ha : PT X a (tB1 C c)) : PW X (.BoolOp .And [a] pos) (tB1 C c) := pw_and1 ha
theorem t_or1 (ha : PT X a (tB1 C c)) : PW X (.BoolOp .Or [a] pos) (tB1 C c) := pw_or1 ha
/-- as values -/
theorem r_not (ha : PE X a (tP C f)) : PE X (.UnaryOp .Not a pos) (tP C (pOf (bNot (pB f)))) := pe_weak (pe_not ha) fun σ H Q => by
  rintro ⟨ev, O, S, L, ft, gd, p, hp, q⟩
  obtain ⟨z, hz, rfl⟩ := Option.map_eq_some_iff.mp hp
  obtain ⟨y, hy, rfl⟩ := Option.map_eq_some_iff.mp hz
  exact b_of (fun _ _ _ z => z) σ H _ ⟨ev, O, S, L, ft, gd, y, hy, q _ ⟨rfl, rfl, rfl⟩⟩
theorem r_and {rest : List Expr} (ha : PE X a (tP C f)) (hb : PE X (.BoolOp .And (b :: rest) pos) (tP C (pOf d))) : PE X (.BoolOp .And (a :: b :: rest) pos) (tP C (pOf (bAnd (pB f) d))) := pe_weak (pe_and ha hb) fun σ H Q => by
  rintro ⟨ev, O, S, L, ft, gd, p, hp, q⟩
  obtain ⟨z, hz, rfl⟩ := Option.map_eq_some_iff.mp hp
  unfold bAnd at hz
  split at hz
  · rename_i hc
    exact b_of (fun _ _ _ z => z) σ H (fun k H1 => if k = true then _ else _) ⟨ev, O, S, L, ft, gd, true, hc, iteT <| ⟨ev, O, S, L, ft, gd, _, by unfold pOf; rw [hz]; rfl, q⟩⟩
  · rename_i hc; cases hz
    exact b_of (fun _ _ _ z => z) σ H (fun k H1 => if k = true then _ else _) ⟨ev, O, S, L, ft, gd, false, hc, iteF <| q _ ⟨rfl, rfl, rfl⟩⟩
  · cases hz
theorem r_or {rest : List Expr} (ha : PE X a (tP C f)) (hb : PE X (.BoolOp .Or (b :: rest) pos) (tP C (pOf d))) : PE X (.BoolOp .Or (a :: b :: rest) pos) (tP C (pOf (bOr (pB f) d))) := pe_weak (pe_or ha hb) fun σ H Q => by
  rintro ⟨ev, O, S, L, ft, gd, p, hp, q⟩
  obtain ⟨z, hz, rfl⟩ := Option.map_eq_some_iff.mp hp
  unfold bOr at hz
  split at hz
  · rename_i hc; cases hz
    exact b_of (fun _ _ _ z => z) σ H (fun k H1 => if k = true then _ else _) ⟨ev, O, S, L, ft, gd, true, hc, iteT <| q _ ⟨rfl, rfl, rfl⟩⟩
  · rename_i hc
    exact b_of (fun _ _ _ z => z) σ H (fun k H1 => if k = true then _ else _) ⟨ev, O, S, L, ft, gd, false, hc, iteF <| ⟨ev, O, S, L, ft, gd, _, by unfold pOf; rw [hz]; rfl, q⟩⟩
  · cases hz
/-- the last one of them, a truth -/
theorem r_one {op} (ha : PE X a (tP C f)) : PE X (.BoolOp op [a] pos) (tP C (pOf (pB f))) := pe_weak (pe_one ha) fun σ H Q => by
  rintro ⟨ev, O, S, L, ft, gd, p, hp, q⟩
  obtain ⟨z, hz, rfl⟩ := Option.map_eq_some_iff.mp hp
  unfold pB at hz
  split at hz
  · rename_i p hp
    split at hz
    · rename_i c hc
      cases hz
      refine ⟨ev, O, S, L, ft, gd, p, hp, fun v hv => ?_⟩
      obtain ⟨fp, r⟩ := pv_rep hv
      rw [hc] at r
      exact q v ⟨rfl, by rw [rp_bl r]; exact ⟨rfl, rfl⟩⟩
    · cases hz
  · cases hz
theorem chain_weak {g g' : D → D → Option D} {r r' : R2} (P : Pr2 C r g) (P' : Pr2 C r' g') : ∀ σ H Q, tB1 C (bChain g g' f h k) σ H Q → tTest (tChain r r' (tP C f) (tP C h) (tP C k)) σ H Q := fun σ H Q => by
  rintro ⟨ev, O, S, L, ft, gd, z, hz, q⟩
  unfold bChain at hz
  split at hz
  · rename_i a b ha hb
    refine ⟨ev, O, S, L, ft, gd, a, ha, fun x hx => ⟨ev, O, S, L, ft, gd, b, hb, fun y hy => ?_⟩⟩
    obtain ⟨f1, r1⟩ := pv_rep hx
    obtain ⟨f2, r2⟩ := pv_rep hy
    split at hz
    · rename_i hg
      split at hz
      · rename_i c hc
        split at hz
        · rename_i z' hz'
          cases hz
          refine P H x y _ _ _ f1 f2 _ r1 r2 hg fun v _ rv => ⟨true, rp_bl rv, ?_⟩
          rw [if_pos rfl]
          refine ⟨ev, O, S, L, ft, gd, c, hc, fun w hw => ?_⟩
          obtain ⟨f3, r3⟩ := pv_rep hw
          exact P' H y w _ _ _ f2 f3 _ r2 r3 hz' fun v' _ rv' => ⟨_, rp_bl rv', q⟩
        · cases hz
      · cases hz
    · rename_i hg
      cases hz
      refine P H x y _ _ _ f1 f2 _ r1 r2 hg fun v _ rv => ⟨false, rp_bl rv, ?_⟩
      rw [if_neg Bool.false_ne_true]
      exact ⟨false, rfl, q⟩
    · cases hz
  · cases hz
theorem t_chain {op op' : CmpOp} {r r' : R2} {g g' : D → D → Option D} {c : Expr} (ho : OpR X (compareOp op) r) (ho' : OpR X (compareOp op') r') (P : Pr2 C r g) (P' : Pr2 C r' g') (ha : PE X a (tP C f)) (hb : PE X b (tP C h)) (hc : PE X c (tP C k))
    (hm : lastMarks [op, op'] [b, c] = false := by with_unfolding_all rfl) : PT X (.Compare a [op, op'] [b, c] pos) (tB1 C (bChain g g' f h k)) := pt_weak (pt_chain ho ho' ha hb hc hm) (chain_weak P P')
theorem r_chain {op op' : CmpOp} {r r' : R2} {g g' : D → D → Option D} {c : Expr} (ho : OpR X (compareOp op) r) (ho' : OpR X (compareOp op') r') (P : Pr2 C r g) (P' : Pr2 C r' g') (ha : PE X a (tP C f)) (hb : PE X b (tP C h)) (hc : PE X c (tP C k))
    (hm : lastMarks [op, op'] [b, c] = false := by with_unfolding_all rfl) : PE X (.Compare a [op, op'] [b, c] pos) (tP C (pOf (bChain g g' f h k))) := pe_weak (pe_chain ho ho' ha hb hc hm) fun σ H Q => by
  rintro ⟨ev, O, S, L, ft, gd, p, hp, q⟩
  obtain ⟨z, hz, rfl⟩ := Option.map_eq_some_iff.mp hp
  unfold bChain at hz
  split at hz
  · rename_i a b ha hb
    refine ⟨ev, O, S, L, ft, gd, a, ha, fun x hx => ⟨ev, O, S, L, ft, gd, b, hb, fun y hy => ?_⟩⟩
    obtain ⟨f1, r1⟩ := pv_rep hx
    obtain ⟨f2, r2⟩ := pv_rep hy
    split at hz
    · rename_i hg
      split at hz
      · rename_i c hc
        split at hz
        · rename_i z' hz'
          cases hz
          refine P H x y _ _ _ f1 f2 _ r1 r2 hg fun v _ rv => ⟨true, rp_bl rv, ?_⟩
          rw [if_pos rfl]
          refine ⟨ev, O, S, L, ft, gd, c, hc, fun w hw => ?_⟩
          obtain ⟨f3, r3⟩ := pv_rep hw
          exact P' H y w _ _ _ f2 f3 _ r2 r3 hz' fun v' fl rv' => q v' ⟨fl, rv'⟩
        · cases hz
      · cases hz
    · rename_i hg
      cases hz
      refine P H x y _ _ _ f1 f2 _ r1 r2 hg fun v _ rv => ⟨false, rp_bl rv, ?_⟩
      rw [if_neg Bool.false_ne_true]
      exact q _ ⟨rfl, rfl, rfl⟩
    · cases hz
  · cases hz
/-- a if c else b -/
theorem r_if {c' : Expr} (hc : PT X c' (tB1 C c)) (ha : PE X a (tP C f)) (hb : PE X b (tP C h)) : PE X (.IfExp c' a b pos) (tP C (pIf c f h)) := pe_weak (pe_ifExp hc ha hb) fun σ H Q => by
  rintro ⟨ev, O, S, L, ft, gd, p, hp, q⟩
  unfold pIf at hp
  split at hp
  · rename_i hc; exact ⟨ev, O, S, L, ft, gd, true, hc, iteT <| ⟨ev, O, S, L, ft, gd, p, hp, q⟩⟩
  · rename_i hc; exact ⟨ev, O, S, L, ft, gd, false, hc, iteF <| ⟨ev, O, S, L, ft, gd, p, hp, q⟩⟩
  · cases hp

/-! ### built-in calls that look -/
theorem pa1 {r : RL} {g : D → Option D} (P : PrL1 C r g) : ∀ σ H Q, tP C (p1 g f) σ H Q → tCB r (tCons (tP C f) tNil) σ H Q := fun σ H Q => by
  rintro ⟨ev, O, S, L, ft, gd, p, hp, q⟩
  unfold p1 at hp
  split at hp
  · rename_i a ha
    obtain ⟨d, hd, rfl⟩ := Option.map_eq_some_iff.mp hp
    refine ⟨ev, O, S, L, ft, gd, a, ha, fun x hx => ?_⟩
    obtain ⟨f1, r1⟩ := pv_rep hx
    exact P H x _ d f1 Q r1 hd fun v fl rv => q v ⟨fl, rv⟩
  · cases hp
theorem pa2 {r : RL} {g : D → D → Option D} (P : PrL2 C r g) : ∀ σ H Q, tP C (p2 g f h) σ H Q → tCB r (tCons (tP C f) (tCons (tP C h) tNil)) σ H Q := fun σ H Q => by
  rintro ⟨ev, O, S, L, ft, gd, p, hp, q⟩
  unfold p2 at hp
  split at hp
  · rename_i a b ha hb
    obtain ⟨d, hd, rfl⟩ := Option.map_eq_some_iff.mp hp
    refine ⟨ev, O, S, L, ft, gd, a, ha, fun x hx => ⟨ev, O, S, L, ft, gd, b, hb, fun y hy => ?_⟩⟩
    obtain ⟨f1, r1⟩ := pv_rep hx
    obtain ⟨f2, r2⟩ := pv_rep hy
    exact P H x y _ _ d f1 f2 Q r1 r2 hd fun v fl rv => q v ⟨fl, rv⟩
  · cases hp
end
end T6

namespace T6
open PySem PySem.Spec PyProof.Rows L2
variable [Tbl]
section
variable {C : Cs} {mg : Str → Option Value} {H H' H1 H2 : Hp} {O O' O1 O2 S S' S1 S2 L : Ps} {P : Nat → Prop} {σ τ ρ : L2.St} {ev ev1 ev2 : Ev} {rs rs1 rs2 : List MD} {vs vs1 vs2 : List V}

/-! ### steps one behind the other -/
theorem Pst.refl (ft : Fit ev σ) (gd : Good C H O S L (ents ev σ)) : Pst C L P σ ev O S H [] ev [] σ O S H := ⟨ft, .refl _ _, rfl, by simp, gd, .refl⟩
theorem zip_app {α β : Type} : ∀ {a a' : List α} {b b' : List β}, a.length = b.length → (a ++ a').zip (b ++ b') = a.zip b ++ a'.zip b'
  | [], _, [], _, _ => rfl
  | x :: a, _, y :: b, _, h => by
    simp only [List.cons_append, List.zip_cons_cons]
    rw [zip_app (by simpa using h)]
  | [], _, _ :: _, _, h => by simp at h
  | _ :: _, _, [], _, h => by simp at h
/-- from where the next piece starts, and what its end is worth -/
theorem Pst.next (p : Pst C L P σ ev O S H rs1 ev1 vs1 τ O1 S1 H1) : ∃ OE, Good C H1 OE S1 L (ents ev1 τ) ∧
    ∀ rs2 ev2 vs2 ρ O2 S2 H2, Pst C L P τ ev1 OE S1 H1 rs2 ev2 vs2 ρ O2 S2 H2 → ∃ O', Pst C L P σ ev O S H (rs1 ++ rs2) ev2 (vs1 ++ vs2) ρ O' S2 H2 := by
  obtain ⟨OR, OE, g1, g2, m, d⟩ := p.good.parts
  refine ⟨OE, g2, fun rs2 ev2 vs2 ρ O2 S2 H2 q => ?_⟩
  obtain ⟨G, g⟩ := g2.frame g1 (fun a h z => d a z h) q.good q.go
  refine ⟨fun a => O2 a ∨ OR a, q.fit, p.lk.trans q.lk, by rw [List.length_append, List.length_append, p.len, q.len], fun r hr => (List.mem_append.mp hr).elim (p.nl r) (q.nl r), ?_, ?_⟩
  · rw [zip_app p.len]
    refine G.perm ?_
    rw [List.append_assoc, List.append_assoc]
    refine ((List.perm_append_comm (l₁ := ents ev2 ρ) (l₂ := vs1.zip rs1)).append_left _).trans ?_
    rw [← List.append_assoc, ← List.append_assoc]
    exact List.perm_append_comm.append_right _
  · refine p.go.trans ⟨fun a o h n => g.keep a o h fun z => n ((m a).mpr z.symm), g.code, g.live, fun a h => (g.newO a h).imp (fun z => (m a).mpr z.symm) id, g.monS, fun a h => (g.newS a h).imp id fun z => z.imp (fun z => (m a).mpr z.symm) id⟩
/-- the first results are dropped -/
theorem Pst.dropL (p : Pst C L P σ ev O S H (rs1 ++ rs2) ev1 (vs1 ++ vs2) τ O1 S1 H1) (hl : vs1.length = rs1.length) : ∃ O', Pst C L P σ ev O S H rs2 ev1 vs2 τ O' S1 H1 := by
  have g := p.good
  rw [zip_app hl, List.append_assoc] at g
  obtain ⟨O', g', le⟩ := g.drop
  refine ⟨O', p.fit, p.lk, ?_, fun r hr => p.nl r (List.mem_append_right _ hr), g', p.go.less le⟩
  have := p.len
  rw [List.length_append, List.length_append, hl] at this
  omega
theorem Pst.ent {i : Nat} {md : MD} (p : Pst C L P σ ev O S H rs ev1 vs τ O1 S1 H1) (e : rs[i]? = some md) : ∃ v own, vs[i]? = some v ∧ Ent C H1 S1 L (v, md) own := by
  obtain ⟨hi, e'⟩ := List.getElem?_eq_some_iff.mp e
  have hv : i < vs.length := by rw [p.len]; exact hi
  obtain ⟨ol, es, _, _⟩ := p.good.ex
  have hz : (vs.zip rs)[i]? = some (vs[i], md) := by
    rw [List.getElem?_zip_eq_some]
    exact ⟨by simp [hv], e⟩
  have key : ∀ {l : List En} {o : List Addr} {x : En}, Ents C H1 S1 L l o → x ∈ l → ∃ own, Ent C H1 S1 L x own := by
    intro l
    induction l with
    | nil => intro o x _ h; simp at h
    | cons y l ih =>
      rintro o x ⟨o1, o2, _, h1, h2⟩ hx
      rcases List.mem_cons.mp hx with rfl | hx
      · exact ⟨o1, h1⟩
      · exact ih h2 hx
  obtain ⟨own, h⟩ := key es (List.mem_append_left _ (List.mem_of_getElem? hz))
  exact ⟨vs[i], own, by simp [hv], h⟩
theorem Pst.rep1 {md : MD} {v : V} (p : Pst C L P σ ev O S H [md] ev1 [v] τ O1 S1 H1) : ∃ fp, Rep C H1 md.2 v fp := by
  obtain ⟨w, own, e, h⟩ := p.ent (i := 0) (md := md) rfl
  cases e
  exact h.rep
theorem Pst.rep2 {a b : MD} {v w : V} (p : Pst C L P σ ev O S H [a, b] ev1 [v, w] τ O1 S1 H1) : (∃ fp, Rep C H1 a.2 v fp) ∧ ∃ fp, Rep C H1 b.2 w fp := by
  obtain ⟨v', own, e, h⟩ := p.ent (i := 0) (md := a) rfl
  obtain ⟨w', own', e', h'⟩ := p.ent (i := 1) (md := b) rfl
  cases e
  cases e'
  exact ⟨h.rep, h'.rep⟩
theorem rep_flat_rf : ∀ {d : D} {v : V} {f : List Addr}, flat d = true → Rep C H d v f → Rep RF H d v []
  | .non, _, _, _, h => ⟨h.1, rfl⟩
  | .bl _, _, _, _, h => ⟨h.1, rfl⟩
  | .int _, _, _, _, h => ⟨h.1, rfl⟩
  | .str _, _, _, _, h => ⟨h.1, rfl⟩
  | .tup ds, _, _, fl, h => by
    obtain ⟨a, vs, e, q, r⟩ := h
    have fl' : flats ds = true := by simpa [flat] using fl
    have go : ∀ {ds : List D} {vs : List V} {f : List Addr}, flats ds = true → Reps C H ds vs f → (∀ d ∈ ds, ∀ v f, flat d = true → Rep C H d v f → Rep RF H d v []) → Reps RF H ds vs [] := by
      intro ds
      induction ds with
      | nil => intro vs f _ h _; exact ⟨h.1, rfl⟩
      | cons d ds ih =>
        intro vs f fl h k
        obtain ⟨v, vs', f1, f2, rfl, _, r1, r2⟩ := h
        simp only [flats, Bool.and_eq_true] at fl
        exact ⟨v, vs', [], [], rfl, rfl, k d List.mem_cons_self v f1 fl.1 r1, ih fl.2 r2 fun d' hd => k d' (List.mem_cons_of_mem _ hd)⟩
    exact ⟨a, vs, e, q, go fl' r fun d hd v f fl r => rep_flat_rf fl r⟩
  | .lst _, _, _, fl, _ => by simp [flat] at fl
  | .dct _ _, _, _, fl, _ => by simp [flat] at fl
  | .err c ds, _, _, _, h => by
    obtain ⟨_, fl', a, od, vs, e, q, r, z⟩ := h
    have go : ∀ {ds : List D} {vs : List V} {f : List Addr}, flats ds = true → Reps C H ds vs f → (∀ d ∈ ds, ∀ v f, flat d = true → Rep C H d v f → Rep RF H d v []) → Reps RF H ds vs [] := by
      intro ds
      induction ds with
      | nil => intro vs f _ h _; exact ⟨h.1, rfl⟩
      | cons d ds ih =>
        intro vs f fl h k
        obtain ⟨v, vs', f1, f2, rfl, _, r1, r2⟩ := h
        simp only [flats, Bool.and_eq_true] at fl
        exact ⟨v, vs', [], [], rfl, rfl, k d List.mem_cons_self v f1 fl.1 r1, ih fl.2 r2 fun d' hd => k d' (List.mem_cons_of_mem _ hd)⟩
    exact ⟨rfl, fl', a, od, vs, e, q, go fl' r fun d hd v f fl r => rep_flat_rf fl r, z⟩
termination_by d => sizeOf d
decreasing_by
  all_goals
    have := List.sizeOf_lt_of_mem hd
    simp_wf
    omega
theorem ent_flat {d : D} {v : V} {f : List Addr} (fl : flat d = true) (r : Rep C H d v f) : Ent C H S L (v, (Md.dp, d)) [] := ⟨rep_flat_rf fl r, by simp⟩
theorem Good.flat {es : List En} {d : D} {v : V} {f : List Addr} (g : Good C H O S L es) (fl : T6.flat d = true) (r : Rep C H d v f) : Good C H O S L ((v, (Md.dp, d)) :: es) := by
  obtain ⟨ol, e, nd, m⟩ := g.ex
  exact ⟨⟨ol, ⟨[], ol, rfl, ent_flat fl r, e⟩, nd, m⟩, g.os, g.sl, g.lv, g.tab⟩
/-- all is dropped, a flat thing comes -/
theorem Pst.flat {d : D} {v : V} {f : List Addr} (p : Pst C L P σ ev O S H rs ev1 vs τ O1 S1 H1) (fl : T6.flat d = true) (r : Rep C H1 d v f) : ∃ O', Pst C L P σ ev O S H [(Md.dp, d)] ev1 [v] τ O' S1 H1 := by
  obtain ⟨O', g, le⟩ := p.good.drop
  exact ⟨O', p.fit, p.lk, rfl, by simp, g.flat fl r, p.go.less le⟩

/-! ### pieces in a row -/
theorem aft_bind {α β : Type} {W : WX} {x : Rs α} {fn : α → Ev → Rs β} {k : β → Ev → Prop} {k' : α → Ev → Prop} (h : Aft C mg σ ev O S L H W (x.bind fn) k)
    (w : ∀ a ev1, Aft C mg σ ev O S L H W (fn a ev1) k → k' a ev1) : Aft C mg σ ev O S L H W x k' := by
  cases x with
  | ok a ev1 => exact w a ev1 h
  | ex c p ev1 => exact h
  | no => exact h
/-- what follows from behind a piece -/
theorem aft_next {α : Type} {W : WX} {x : Rs α} {k : α → Ev → Prop} {k' : α → Ev → Prop} {OE : Ps} (hl : vs1.length = rs1.length)
    (nx : ∀ rs2 ev2 vs2 ρ O2 S2 H2, Pst C L (fun _ => True) σ ev1 OE S1 H1 rs2 ev2 vs2 ρ O2 S2 H2 → ∃ O', Pst C L (fun _ => True) σ ev O S H (rs1 ++ rs2) ev2 (vs1 ++ vs2) ρ O' S2 H2)
    (h : Aft C mg σ ev O S L H W x k) (w : ∀ a ev2, k a ev2 → k' a ev2) : Aft C mg σ ev1 OE S1 L H1 W x k' := by
  cases x with
  | ok a ev2 => exact w a ev2 h
  | ex c p ev2 =>
    intro cls dd rs vs H' O' S' q xo
    obtain ⟨O3, q3⟩ := nx _ _ _ _ _ _ _ q
    obtain ⟨O4, q4⟩ := q3.dropL hl
    exact h cls dd rs vs H' O4 S' q4 xo
  | no => exact h
end
end T6

namespace T6
open PySem PySem.Spec PyProof.Rows L2
variable [Tbl]

/-! ### pieces -/
def mRet {α : Type} (a : α) : Ev → Rs α := fun ev => .ok a ev
/-- what is looked at, held for good -/
def capM (f : Ev → Option Pv) : Ev → Rs MD := fun ev => match f ev with
  | some (.fl d) => .ok (.dp, d) ev
  | some (.vw i t d) => if flat d = true then .ok (.dp, d) ev else match ev[i]? with
    | some (some (.sh, _)) => .ok (.sh, d) ev
    | some (some (.rt, d0)) => if t = true then .ok (.sh, d) (ev.set i (some (.sh, d0))) else .ok (.sh, d) ev
    | some (some (.dp, d0)) => .ok (.sh, d) (ev.set i (some (.sh, d0)))
    | _ => .no
  | none => .no
/-- a name given away -/
def mvM (i : Nat) : Ev → Rs MD := fun ev => match ev[i]? with
  | some (some (m, d)) => if m = .lk then .no else .ok (m, d) (ev.set i none)
  | _ => .no
def opM (g : D → D → Option D) (f h : Ev → Rs MD) : Ev → Rs MD := fun ev => (f ev).bind fun a ev1 => (h ev1).bind fun b ev2 => match g a.2 b.2 with
  | some d => .ok (.dp, d) ev2
  | none => .no
def unM (g : D → Option D) (f : Ev → Rs MD) : Ev → Rs MD := fun ev => (f ev).bind fun a ev1 => match g a.2 with
  | some d => .ok (.dp, d) ev1
  | none => .no
def nilM : Ev → Rs (List MD) := fun ev => .ok [] ev
def consM (f : Ev → Rs MD) (h : Ev → Rs (List MD)) : Ev → Rs (List MD) := fun ev => (f ev).bind fun a ev1 => (h ev1).bind fun as ev2 => .ok (a :: as) ev2
/-- all of it is ours -/
def allD (as : List MD) : Bool := as.all fun a => a.1 == .dp || flat a.2
def tupM (h : Ev → Rs (List MD)) : Ev → Rs MD := fun ev => (h ev).bind fun as ev1 => if as.length ≤ sizeLine then .ok (if allD as = true then .dp else .sh, .tup (as.map (·.2))) ev1 else .no
def lstM (h : Ev → Rs (List MD)) : Ev → Rs MD := fun ev => (h ev).bind fun as ev1 => if as.length ≤ sizeLine then .ok (if allD as = true then .dp else .rt, .lst (as.map (·.2))) ev1 else .no
def bM (f : Ev → Rs MD) : Ev → Rs Bool := fun ev => (f ev).bind fun a ev1 => match a.2 with
  | .bl b => .ok b ev1
  | _ => .no
def liftB (f : Ev → Option Bool) : Ev → Rs Bool := fun ev => match f ev with
  | some b => .ok b ev
  | none => .no
def notM (f : Ev → Rs Bool) : Ev → Rs Bool := fun ev => (f ev).bind fun a ev1 => .ok (!a) ev1
def andM (f h : Ev → Rs Bool) : Ev → Rs Bool := fun ev => (f ev).bind fun a ev1 => if a = true then h ev1 else .ok false ev1
def orM (f h : Ev → Rs Bool) : Ev → Rs Bool := fun ev => (f ev).bind fun a ev1 => if a = true then .ok true ev1 else h ev1
def ofB (f : Ev → Rs Bool) : Ev → Rs MD := fun ev => (f ev).bind fun a ev1 => .ok (.dp, .bl a) ev1
def ifM (c : Ev → Rs Bool) (f h : Ev → Rs MD) : Ev → Rs MD := fun ev => (c ev).bind fun a ev1 => if a = true then f ev1 else h ev1

section
variable {K : PySem.W.Frag} {C : Cs} {mg : Str → Option Value} {X : Cx} {W : WX} {a b e : Expr} {es : List Expr} {H H' H1 H2 : Hp} {O O' O1 O2 S S' S1 S2 L : Ps} {P : Nat → Prop} {σ τ : L2.St} {ev ev1 ev2 : Ev} {pos : Pos} {rs rs1 rs2 : List MD} {vs vs1 vs2 : List V}
/-- what is ours is shared from now on -/
theorem Good.share {es : List En} {x : En} (g : Good C H O S L (x :: es)) (hm : x.2.1 ≠ .lk) : ∃ O' S', Good C H O' S' L ((x.1, (Md.sh, x.2.2)) :: es) ∧ (∀ a, O' a → O a) ∧ (∀ a, S a → S' a) ∧ (∀ a, S' a → S a ∨ O a) ∧ ∃ own, Ent C H S L x own ∧ ∀ a ∈ own, S' a := by
  obtain ⟨ol, ⟨o1, o2, rfl, h, t⟩, nd, m⟩ := g.ex
  have nd' := List.nodup_append.mp nd
  have lift : ∀ {l : List En} {o : List Addr}, Ents C H S L l o → Ents C H (fun a => S a ∨ a ∈ o1) L l o := by
    intro l
    induction l with
    | nil => intro o h; exact h
    | cons y l ih =>
      rintro o ⟨p1, p2, rfl, h1, h2⟩
      refine ⟨p1, p2, rfl, ?_, ih h2⟩
      obtain ⟨v, m, d⟩ := y
      cases m
      · obtain ⟨e, fp, r, h⟩ := h1; exact ⟨e, fp, r, fun a ha => .inl (h a ha)⟩
      · obtain ⟨a, f1, e1, e2, q, h⟩ := h1; exact ⟨a, f1, e1, e2, fun b hb => .inl (q b hb), h⟩
      · exact h1
      · obtain ⟨e, fp, r, h⟩ := h1; exact ⟨e, fp, r, fun a ha => (h a ha).imp id .inl⟩
  refine ⟨(· ∈ o2), fun a => S a ∨ a ∈ o1, ⟨⟨o2, ⟨[], o2, rfl, ⟨rfl, ?_⟩, lift t⟩, nd'.2.1, fun _ => Iff.rfl⟩, fun a h => ⟨fun z => z.elim (fun z => (g.os a ((m a).mp (List.mem_append_right _ h))).1 z) fun z => nd'.2.2 a z a h rfl, (g.os a ((m a).mp (List.mem_append_right _ h))).2⟩,
    fun a h => h.elim (g.sl a) fun z => (g.os a ((m a).mp (List.mem_append_left _ z))).2, fun a h => ?_, g.tab⟩, fun a h => (m a).mp (List.mem_append_right _ h), fun a h => .inl h, fun a h => h.imp id fun z => (m a).mp (List.mem_append_left _ z), o1, h, fun a ha => .inr ha⟩
  · obtain ⟨v, md, d⟩ := x
    cases md
    · obtain ⟨_, fp, r, h⟩ := h; exact ⟨fp, r, fun a ha => .inl (h a ha)⟩
    · obtain ⟨a, f1, rfl, rfl, q, h⟩ := h
      refine ⟨a :: f1, ?_, fun b hb => (List.mem_cons.mp hb).elim (fun z => .inr (by rw [z]; simp)) fun z => .inl (q b z)⟩
      rcases h with ⟨ds, vs, rfl, hH, r⟩ | ⟨ks, ds, kvs, rfl, e, hH, r⟩
      · exact ⟨a, vs, f1, rfl, r, .inl ⟨.inl hH, rfl⟩⟩
      · exact ⟨a, kvs, f1, rfl, e, r, .inl hH, rfl⟩
    · exact ⟨o1, h.1.mono, fun a ha => .inr ha⟩
    · exact absurd rfl hm
  · rcases h with (h | h) | h
    · exact g.lv a (.inl h)
    · exact (g.trk a ((m a).mp (List.mem_append_left _ h))).ne
    · exact g.lv a (.inr h)
/-- one more is held of what is shared -/
theorem Good.dup {es : List En} {x : En} {d : D} {v : V} {fp : List Addr} (g : Good C H O S L (x :: es)) (r : Rep C H d v fp) (h : ∀ a ∈ fp, S a) : Good C H O S L ((v, (Md.sh, d)) :: x :: es) := by
  obtain ⟨ol, e, nd, m⟩ := g.ex
  exact ⟨⟨ol, ⟨[], ol, rfl, ⟨rfl, fp, r, h⟩, e⟩, nd, m⟩, g.os, g.sl, g.lv, g.tab⟩
theorem Good.dup0 {es : List En} {d : D} {v : V} {fp : List Addr} (g : Good C H O S L es) (r : Rep C H d v fp) (h : ∀ a ∈ fp, S a) : Good C H O S L ((v, (Md.sh, d)) :: es) := by
  obtain ⟨ol, e, nd, m⟩ := g.ex
  exact ⟨⟨ol, ⟨[], ol, rfl, ⟨rfl, fp, r, h⟩, e⟩, nd, m⟩, g.os, g.sl, g.lv, g.tab⟩
theorem Go.own {Oa Sa : Ps} (h : ∀ a, O' a → O a) (m : ∀ a, S a → S' a) (n : ∀ a, S' a → S a ∨ O a) : Go O S H O' S' H := ⟨fun _ _ h _ => .inl h, fun _ h => h, fun _ h => h, fun a q => .inl (h a q), m, fun a q => (n a q).imp id .inl⟩
/-- a name given away -/
theorem pst_mv {i : Nat} {m : Md} {d : D} (ft : Fit ev σ) (gd : Good C H O S L (ents ev σ)) (e : ev[i]? = some (some (m, d))) (hm : m ≠ .lk) : ∃ v, σ[i]? = some (some v) ∧ Pst C L P σ ev O S H [(m, d)] (ev.set i none) [v] σ O S H := by
  obtain ⟨v, e1, p, f⟩ := fit_get ft e
  exact ⟨v, e1, f, .put fun d z => (nomatch z), rfl, by simpa using hm, gd.perm p, .refl⟩
/-- a look, held -/
theorem pst_cap {f : Ev → Option Pv} {p : Pv} {v : V} {r : MD} (ft : Fit ev σ) (gd : Good C H O S L (ents ev σ)) (hp : f ev = some p) (ok : PvOk C H S L ev σ p v) (hc : capM f ev = .ok r ev1) : ∃ O' S', Pst C L P σ ev O S H [r] ev1 [v] σ O' S' H := by
  unfold capM at hc
  rw [hp] at hc
  cases p with
  | fl d =>
    cases hc
    exact ⟨O, S, ft, .refl _ _, rfl, by simp, gd.flat ok.1 ok.2, .refl⟩
  | vw i t d =>
    dsimp only at hc
    split at hc
    · rename_i fl
      cases hc
      obtain ⟨fp, r⟩ := pv_rep ok
      exact ⟨O, S, ft, .refl _ _, rfl, by simp, gd.flat fl r, .refl⟩
    · obtain ⟨v0, m, d0, e0, e1, et, hr, h⟩ := ok
      have il : i < ev.length := (List.getElem?_eq_some_iff.mp e1).1
      obtain ⟨w, e2, pm, f1⟩ := fit_get ft e1
      rw [e0] at e2
      cases e2
      rw [e1] at hc
      cases m with
      | sh =>
        cases hc
        obtain ⟨fp, r, s⟩ := h
        exact ⟨O, S, ft, .refl _ _, rfl, by simp, gd.dup0 r s, .refl⟩
      | lk => cases hc
      | rt =>
        dsimp only at hc
        split at hc
        · rename_i ht
          cases hc
          obtain ⟨q1, q2⟩ := et ht
          rw [q1, q2]
          obtain ⟨O', S', g, h1, h2, h3, _⟩ := (gd.perm pm).share (by simp)
          obtain ⟨pp, ff⟩ := fit_put (md := (Md.sh, d0)) ft il e0
          obtain ⟨_, _, fp, r, s⟩ := good_ent g
          exact ⟨O', S', ff, .put (fun d z => nomatch z), rfl, by simp, (g.dup (d := d0) (v := v0) r s).perm (pp.symm.cons _), .own (Oa := O) (Sa := S) h1 h2 h3⟩
        · rename_i ht
          cases hc
          obtain ⟨fp, r, s⟩ := h (by simpa using ht)
          exact ⟨O, S, ft, .refl _ _, rfl, by simp, gd.dup0 r s, .refl⟩
      | dp =>
        cases hc
        obtain ⟨fp, f0, r, r0, s⟩ := h
        obtain ⟨O', S', g, h1, h2, h3, own, en, hs⟩ := (gd.perm pm).share (by simp)
        obtain ⟨pp, ff⟩ := fit_put (md := (Md.sh, d0)) ft il e0
        have e3 : own = f0 := Rep.uniq en.1 r0
        exact ⟨O', S', ff, .put (fun d z => nomatch z), rfl, by simp, (g.dup (d := d) (v := v) r.mono fun a ha => hs a (by rw [e3]; exact s a ha)).perm (pp.symm.cons _), .own (Oa := O) (Sa := S) h1 h2 h3⟩
end
end T6

namespace T6
open PySem PySem.Spec PyProof.Rows L2
variable [Tbl]
section
variable {K : PySem.W.Frag} {C : Cs} {mg : Str → Option Value} {X : Cx} {W : WX} {a b e : Expr} {es : List Expr} {H H' H1 H2 : Hp} {O O' O1 O2 S S' S1 S2 L : Ps} {P : Nat → Prop} {σ τ : L2.St} {ev ev1 ev2 : Ev} {pos : Pos} {rs rs1 rs2 : List MD} {vs vs1 vs2 : List V}
  {f h : Ev → Rs MD}
theorem cap_noex {f : Ev → Option Pv} {c : Str} {q : Option MD} : capM f ev ≠ .ex c q ev1 := by
  unfold capM
  intro h
  (repeat' split at h) <;> cases h
theorem r_cap {f : Ev → Option Pv} (he : PE X e (tP C f)) : PE X e (tE C mg W (capM f)) := pe_weak he fun σ H Q => by
  rintro ⟨ev, O, S, L, ft, gd, k⟩
  cases hp : f ev with
  | none =>
    have : capM f ev = .no := by unfold capM; rw [hp]
    rw [this] at k; exact k.elim
  | some p =>
    refine ⟨ev, O, S, L, ft, gd, p, hp, fun v hv => ?_⟩
    cases hc : capM f ev with
    | ok r ev1 =>
      rw [hc] at k
      obtain ⟨O', S', q⟩ := pst_cap ft gd hp hv hc
      exact k v H O' S' q
    | ex c p ev1 => exact absurd hc cap_noex
    | no => rw [hc] at k; exact k.elim
theorem r_mv {i : Nat} {x : Str} (hv : PE X (.Name x pos) (tVar i)) : PE X (.Name x pos) (tE C mg W (mvM i)) := pe_weak hv fun σ H Q => by
  rintro ⟨ev, O, S, L, ft, gd, k⟩
  unfold mvM at k
  split at k
  · rename_i m d he
    split at k
    · exact k.elim
    · rename_i hm
      obtain ⟨v, e1, p⟩ := pst_mv ft gd he hm
      exact ⟨v, e1, k v H O S p⟩
  · exact k.elim
/-- two pieces, then an operation that gives a flat thing -/
theorem opM_weak {r : R2} {g : D → D → Option D} (pr : Pr2 C r g) : ∀ σ H Q, tE C mg W (opM g f h) σ H Q → tOp r (tE C mg W f) (tE C mg W h) σ H Q := fun σ H Q => by
  rintro ⟨ev, O, S, L, ft, gd, k⟩
  refine ⟨ev, O, S, L, ft, gd, aft_bind k fun a ev1 k1 x H1 O1 S1 p1 => ?_⟩
  obtain ⟨OE, g1, nx⟩ := p1.next
  refine ⟨ev1, OE, S1, L, p1.fit, g1, aft_next p1.len (fun rs2 ev2 vs2 ρ O2 S2 H2 q => nx _ _ _ _ _ _ _ q) (aft_bind k1 fun b ev2 k2 => k2) fun b ev2 k2 y H2 O2 S2 q => ?_⟩
  obtain ⟨O3, p3⟩ := nx _ _ _ _ _ _ _ q
  obtain ⟨⟨f1, r1⟩, ⟨f2, r2⟩⟩ := p3.rep2
  split at k2
  · rename_i d hd
    exact pr H2 x y _ _ d f1 f2 Q r1 r2 hd fun v fl rv => by
      obtain ⟨O4, p4⟩ := p3.flat fl rv
      exact k2 v H2 O4 S2 p4
  · exact k2.elim
theorem unM_weak {r : V → Hp → VK → Prop} {g : D → Option D} (pr : Pr1 C r g) : ∀ σ H Q, tE C mg W (unM g f) σ H Q → tUn r (tE C mg W f) σ H Q := fun σ H Q => by
  rintro ⟨ev, O, S, L, ft, gd, k⟩
  refine ⟨ev, O, S, L, ft, gd, aft_bind k fun a ev1 k1 x H1 O1 S1 p1 => ?_⟩
  obtain ⟨f1, r1⟩ := p1.rep1
  split at k1
  · rename_i d hd
    exact pr H1 x _ d f1 Q r1 hd fun v fl rv => by
      obtain ⟨O4, p4⟩ := p1.flat fl rv
      exact k1 v H1 O4 S1 p4
  · exact k1.elim
theorem r_opM {op : Operator} {r : R2} {g : D → D → Option D} (ho : OpR X (binaryOp op) r) (pr : Pr2 C r g) (ha : PE X a (tE C mg W f)) (hb : PE X b (tE C mg W h)) : PE X (.BinOp a op b pos) (tE C mg W (opM g f h)) := pe_weak (pe_op ho ha hb) (opM_weak pr)
theorem r_cmpM {op : CmpOp} {r : R2} {g : D → D → Option D} (ho : OpR X (compareOp op) r) (pr : Pr2 C r g) (ha : PE X a (tE C mg W f)) (hb : PE X b (tE C mg W h)) (hm : behindInMarks op b = false) : PE X (.Compare a [op] [b] pos) (tE C mg W (opM g f h)) := pe_weak (pe_cmpR ho ha hb hm) (opM_weak pr)
theorem r_unM {op : UnaryOp} {r : V → Hp → VK → Prop} {g : D → Option D} (ho : UnR X (unaryOp op) r) (pr : Pr1 C r g) (ha : PE X a (tE C mg W f)) : PE X (.UnaryOp op a pos) (tE C mg W (unM g f)) := pe_weak (pe_un ho ha) (unM_weak pr)

/-! ### argument lists, displays -/
theorem r_nil : PA X [] (tAs C mg W nilM) := pa_weak pa_nil fun σ H Q => by
  rintro ⟨ev, O, S, L, ft, gd, k⟩
  exact k [] H O S (.refl ft gd)
theorem r_cons {hs : Ev → Rs (List MD)} (ha : PE X e (tE C mg W f)) (hr : PA X es (tAs C mg W hs)) (hst : starEach (e :: es) X.env = (false, eval e X.env) :: starEach es X.env := by rfl) : PA X (e :: es) (tAs C mg W (consM f hs)) := pa_weak (pa_cons ha hr hst) fun σ H Q => by
  rintro ⟨ev, O, S, L, ft, gd, k⟩
  refine ⟨ev, O, S, L, ft, gd, aft_bind k fun a ev1 k1 x H1 O1 S1 p1 => ?_⟩
  obtain ⟨OE, g1, nx⟩ := p1.next
  refine ⟨ev1, OE, S1, L, p1.fit, g1, aft_next p1.len (fun rs2 ev2 vs2 ρ O2 S2 H2 q => nx _ _ _ _ _ _ _ q) (aft_bind k1 fun b ev2 k2 => k2) fun as ev2 k2 ys H2 O2 S2 q => ?_⟩
  obtain ⟨O3, p3⟩ := nx _ _ _ _ _ _ _ q
  exact k2 (x :: ys) H2 O3 S2 p3

/-- all are ours -/
theorem ents_d : ∀ {rs : List MD} {vs : List V} {o : List Addr}, vs.length = rs.length → allD rs = true → (∀ r ∈ rs, r.1 ≠ Md.lk) → Ents C H S L (vs.zip rs) o → ∃ own, Reps RF H (rs.map (·.2)) vs own ∧ (∀ a ∈ own, Trk H a) ∧ own.Sublist o
  | [], [], o, _, _, _, h => ⟨[], ⟨rfl, rfl⟩, by simp, List.nil_sublist _⟩
  | r :: rs, v :: vs, _, hl, ha, hn, h => by
    obtain ⟨o1, o2, rfl, h1, h2⟩ := h
    unfold allD at ha
    simp only [List.all_cons, Bool.and_eq_true] at ha
    obtain ⟨own, q1, q2, q3⟩ := ents_d (by simpa using hl) ha.2 (fun r hr => hn r (List.mem_cons_of_mem _ hr)) h2
    by_cases fl : flat r.2 = true
    · obtain ⟨fp, rr⟩ := h1.rep
      exact ⟨own, ⟨v, vs, [], own, rfl, rfl, rep_flat_rf fl rr, q1⟩, q2, q3.trans (List.sublist_append_right _ _)⟩
    · obtain ⟨m, d⟩ := r
      have hm : m = .dp := by
        have := ha.1
        simp only [Bool.or_eq_true, beq_iff_eq] at this
        rcases this with z | z
        · exact z
        · exact absurd z fl
      subst hm
      obtain ⟨rr, t⟩ := h1
      exact ⟨o1 ++ own, ⟨v, vs, o1, own, rfl, rfl, rr, q1⟩, fun a h => (List.mem_append.mp h).elim (t a) (q2 a), q3.append_left _⟩
  | [], _ :: _, _, h, _, _, _ => by simp at h
  | _ :: _, [], _, h, _, _, _ => by simp at h
/-- all are shared -/
theorem share_all : ∀ {rs : List MD} {vs : List V} {O S : Ps} {es : List En}, vs.length = rs.length → (∀ r ∈ rs, r.1 ≠ Md.lk) → Good C H O S L (vs.zip rs ++ es) → ∃ O' S' fp, Good C H O' S' L es ∧ (∀ a, O' a → O a) ∧ (∀ a, S a → S' a) ∧ (∀ a, S' a → S a ∨ O a) ∧ Reps C H (rs.map (·.2)) vs fp ∧ ∀ a ∈ fp, S' a
  | [], [], O, S, es, _, _, g => ⟨O, S, [], g, fun _ h => h, fun _ h => h, fun _ h => .inl h, ⟨rfl, rfl⟩, by simp⟩
  | r :: rs, v :: vs, O, S, es, hl, hn, g => by
    obtain ⟨O1, S1, g1, a1, a2, a3, _⟩ := Good.share (x := (v, r)) (es := vs.zip rs ++ es) g (hn r List.mem_cons_self)
    obtain ⟨o, _, fp, rr, s⟩ := good_ent g1
    obtain ⟨O2, g2, b1⟩ := Good.drop (es := [(v, (Md.sh, r.2))]) g1
    obtain ⟨O3, S3, fp3, g3, c1, c2, c3, r3, s3⟩ := share_all (by simpa using hl) (fun r hr => hn r (List.mem_cons_of_mem _ hr)) g2
    exact ⟨O3, S3, fp ++ fp3, g3, fun a h => a1 a (b1 a (c1 a h)), fun a h => c2 a (a2 a h), fun a h => (c3 a h).elim (a3 a) fun z => .inr (a1 a (b1 a z)), ⟨v, vs, fp, fp3, rfl, rfl, rr, r3⟩,
      fun a h => (List.mem_append.mp h).elim (fun z => c2 a (s a z)) (s3 a)⟩
  | [], _ :: _, _, _, _, h, _, _ => by simp at h
  | _ :: _, [], _, _, _, h, _, _ => by simp at h
/-- a new object is laid -/
theorem Go.laid {p : Addr} {o : HO} (hp : H p = none) : Go O S H O S (upd H p o) where
  keep := fun a u h _ => .inl (by rw [upd_ne (ne_of_none h hp)]; exact h)
  code := fun a h => by rw [upd_ne (ne_of_none h hp)]; exact h
  live := fun a h => by
    by_cases e : a = p
    · rw [e, upd_same]; simp
    · rw [upd_ne e]; exact h
  newO := fun a h => .inl h
  monS := fun a h => h
  newS := fun a h => .inl h
theorem upd_kp {p : Addr} {o : HO} {fp : List Addr} (hp : H p = none) (lv : ∀ a ∈ fp, H a ≠ none) : Kp fp H (upd H p o) :=
  ⟨fun a ha => upd_ne fun e => lv a ha (by rw [e]; exact hp), fun a xs h => by rw [upd_ne (ne_of_none h hp)]; exact h, fun a ob u h => by rw [upd_ne (ne_of_none h hp)]; exact h, fun a u h _ => by rw [upd_ne (ne_of_none h hp)]; exact h⟩
theorem Good.laid {es : List En} {p : Addr} {o : HO} (g : Good C H O S L es) (hp : H p = none) : Good C (upd H p o) O S L es := by
  obtain ⟨ol, e, nd, m⟩ := g.ex
  have go : Go (fun _ => False) S H (fun _ => False) S (upd H p o) := Go.laid hp
  exact ⟨⟨ol, e.go go (fun _ z => z.elim) (fun _ _ z => z) (fun _ z => z.elim), nd, m⟩, g.os, g.sl, fun a h => go.live a (g.lv a h), go.tab (fun _ z => z.elim) g.tab⟩
/-- a new list of what is ours -/
theorem Pst.newD {p : Addr} (p1 : Pst C L P σ ev O S H rs ev1 vs τ O1 S1 H1) (ha : allD rs = true) (hp : H1 p = none) :
    (∃ O', Pst C L P σ ev O S H [(Md.dp, .lst (rs.map (·.2)))] ev1 [.ref p] τ O' S1 (upd H1 p (.lst vs))) ∧ ∃ O', Pst C L P σ ev O S H [(Md.dp, .tup (rs.map (·.2)))] ev1 [.ref p] τ O' S1 (upd H1 p (.tup vs)) := by
  obtain ⟨ol, e, nd, m⟩ := p1.good.ex
  obtain ⟨o1, o2, rfl, e1, e2⟩ := e.split
  obtain ⟨own, r, t, sub⟩ := ents_d p1.len ha p1.nl e1
  have nd' := List.nodup_append.mp nd
  have lo : ∀ a ∈ own, a ∈ o1 := fun a h => sub.subset h
  have mm : ∀ a, a ∈ o1 → O1 a := fun a h => (m a).mp (List.mem_append_left _ h)
  have hO : ∀ a, O1 a → a ≠ p := fun a h e => (p1.good.trk a h).ne (by rw [e]; exact hp)
  have hS : ∀ a, S1 a ∨ L a → a ≠ p := fun a h e => p1.good.lv a h (by rw [e]; exact hp)
  have gE : ∀ {u : HO}, Ents C (upd H1 p u) S1 L (ents ev1 τ) o2 := fun {u} => by
    have go : Go (fun _ => False) S1 H1 (fun _ => False) S1 (upd H1 p u) := Go.laid hp
    exact e2.go go (fun _ z => z.elim) (fun _ _ z => z) (fun _ z => z.elim)
  have tr : ∀ {u : HO} a, a ∈ own → Trk (upd H1 p u) a := fun {u} a h => by
    have : a ≠ p := hO a (mm a (lo a h))
    rcases t a h with ⟨xs, q⟩ | ⟨xs, q⟩
    · exact .inl ⟨xs, by rw [upd_ne this]; exact q⟩
    · exact .inr ⟨xs, by rw [upd_ne this]; exact q⟩
  have rr : ∀ {u : HO}, Reps RF (upd H1 p u) (rs.map (·.2)) vs own := fun {u} => r.kp (upd_kp hp (reps_live r))
  constructor
  · refine ⟨fun a => a ∈ (p :: own) ++ o2, p1.fit, p1.lk, rfl, by simp, ⟨⟨(p :: own) ++ o2, ⟨p :: own, o2, rfl, ⟨⟨p, vs, own, rfl, rr, .inl ⟨.inl upd_same, rfl⟩⟩, fun a h => ?_⟩, gE⟩, ?_, fun a => Iff.rfl⟩, fun a h => ?_, p1.good.sl, fun a h => ?_, (p1.good.laid hp).tab⟩, ?_⟩
    · rcases List.mem_cons.mp h with z | z
      · rw [z]; exact .inl ⟨_, upd_same⟩
      · exact tr a z
    · refine List.nodup_append.mpr ⟨List.nodup_cons.mpr ⟨fun z => hO p (mm p (lo p z)) rfl, sub.nodup nd'.1⟩, nd'.2.1, fun a h1 b h2 z => ?_⟩
      rcases List.mem_cons.mp h1 with y | y
      · exact hO b ((m b).mp (List.mem_append_right _ h2)) (by rw [← z, y])
      · exact nd'.2.2 a (lo a y) b h2 z
    · rcases List.mem_append.mp h with h | h
      · rcases List.mem_cons.mp h with z | z
        · exact ⟨fun q => hS a (.inl q) z, fun q => hS a (.inr q) z⟩
        · exact p1.good.os a (mm a (lo a z))
      · exact p1.good.os a ((m a).mp (List.mem_append_right _ h))
    · rw [upd_ne (hS a h)]; exact p1.good.lv a h
    · refine p1.go.trans ⟨(Go.laid (O := O1) (S := S1) hp).keep, (Go.laid (O := O1) (S := S1) hp).code, (Go.laid (O := O1) (S := S1) hp).live, fun a h => ?_, fun _ h => h, fun _ h => .inl h⟩
      rcases List.mem_append.mp h with h | h
      · rcases List.mem_cons.mp h with z | z
        · exact .inr (by rw [z]; exact hp)
        · exact .inl (mm a (lo a z))
      · exact .inl ((m a).mp (List.mem_append_right _ h))
  · refine ⟨fun a => a ∈ own ++ o2, p1.fit, p1.lk, rfl, by simp, ⟨⟨own ++ o2, ⟨own, o2, rfl, ⟨⟨p, vs, rfl, .inl upd_same, rr⟩, fun a h => tr a h⟩, gE⟩, ?_, fun a => Iff.rfl⟩, fun a h => ?_, p1.good.sl, fun a h => ?_, (p1.good.laid hp).tab⟩, ?_⟩
    · exact List.nodup_append.mpr ⟨sub.nodup nd'.1, nd'.2.1, fun a h1 b h2 z => nd'.2.2 a (lo a h1) b h2 z⟩
    · rcases List.mem_append.mp h with h | h
      · exact p1.good.os a (mm a (lo a h))
      · exact p1.good.os a ((m a).mp (List.mem_append_right _ h))
    · rw [upd_ne (hS a h)]; exact p1.good.lv a h
    · refine p1.go.trans ⟨(Go.laid (O := O1) (S := S1) hp).keep, (Go.laid (O := O1) (S := S1) hp).code, (Go.laid (O := O1) (S := S1) hp).live, fun a h => ?_, fun _ h => h, fun _ h => .inl h⟩
      rcases List.mem_append.mp h with h | h
      · exact .inl (mm a (lo a h))
      · exact .inl ((m a).mp (List.mem_append_right _ h))
/-- a new list of what is shared: its root is ours -/
theorem Pst.newS {p : Addr} (p1 : Pst C L P σ ev O S H rs ev1 vs τ O1 S1 H1) (hp : H1 p = none) :
    (∃ O' S', Pst C L P σ ev O S H [(Md.rt, .lst (rs.map (·.2)))] ev1 [.ref p] τ O' S' (upd H1 p (.lst vs))) ∧ ∃ O' S', Pst C L P σ ev O S H [(Md.sh, .tup (rs.map (·.2)))] ev1 [.ref p] τ O' S' (upd H1 p (.tup vs)) := by
  obtain ⟨O2, S2, fp, g, a1, a2, a3, r, s⟩ := share_all p1.len p1.nl p1.good
  have lv := reps_live r
  have hO : ∀ a, O2 a → a ≠ p := fun a h e => (g.trk a h).ne (by rw [e]; exact hp)
  have hS : ∀ a, S2 a ∨ L a → a ≠ p := fun a h e => g.lv a h (by rw [e]; exact hp)
  have rr : ∀ {u : HO}, Reps C (upd H1 p u) (rs.map (·.2)) vs fp := fun {u} => r.kp (upd_kp hp lv)
  have gg : ∀ {u : HO}, Good C (upd H1 p u) O2 S2 L (ents ev1 τ) := g.laid hp
  have go : ∀ {u : HO}, Go O S H O2 S2 (upd H1 p u) := fun {u} => p1.go.trans ((Go.own a1 a2 a3 (Oa := O) (Sa := S)).trans (Go.laid hp))
  constructor
  · refine ⟨fun a => a = p ∨ O2 a, S2, p1.fit, p1.lk, rfl, by simp, ?_, ⟨(go (u := .lst vs)).keep, (go (u := .lst vs)).code, (go (u := .lst vs)).live, fun a h => ?_, (go (u := .lst vs)).monS, (go (u := .lst vs)).newS⟩⟩
    · obtain ⟨ol, e, nd, m⟩ := (gg (u := .lst vs)).ex
      refine ⟨⟨p :: ol, ⟨[p], ol, rfl, ⟨p, fp, rfl, rfl, s, .inl ⟨_, vs, rfl, upd_same, rr⟩⟩, e⟩, List.nodup_cons.mpr ⟨fun z => hO p ((m p).mp z) rfl, nd⟩, fun a => ?_⟩, fun a h => ?_, g.sl, gg.lv, gg.tab⟩
      · rw [List.mem_cons, m a]
      · rcases h with h | h
        · exact ⟨fun q => hS a (.inl q) h, fun q => hS a (.inr q) h⟩
        · exact g.os a h
    · rcases h with h | h
      · rw [h]
        by_cases z : H p = none
        · exact .inr z
        · exact absurd hp (p1.go.live p z)
      · exact (go (u := .lst vs)).newO a h
  · refine ⟨O2, S2, p1.fit, p1.lk, rfl, by simp, ?_, go⟩
    obtain ⟨ol, e, nd, m⟩ := (gg (u := .tup vs)).ex
    exact ⟨⟨ol, ⟨[], ol, rfl, ⟨rfl, fp, ⟨p, vs, rfl, .inl upd_same, rr⟩, s⟩, e⟩, nd, m⟩, g.os, g.sl, gg.lv, gg.tab⟩
theorem r_tup {hs : Ev → Rs (List MD)} {x1} (h : PA X es (tAs C mg W hs)) : PE X (.Tuple es x1 pos) (tE C mg W (tupM hs)) := pe_weak (pe_tup h) fun σ H Q => by
  rintro ⟨ev, O, S, L, ft, gd, k⟩
  refine ⟨ev, O, S, L, ft, gd, aft_bind k fun as ev1 k1 xs H1 O1 S1 p1 => ?_⟩
  split at k1
  · rename_i hz
    refine ⟨by rw [p1.len]; exact hz, fun p hp => ?_⟩
    by_cases ha : allD as = true
    · rw [if_pos ha] at k1
      obtain ⟨O', q⟩ := (p1.newD ha hp).2
      exact k1 _ _ _ _ q
    · rw [if_neg ha] at k1
      obtain ⟨O', S', q⟩ := (p1.newS hp).2
      exact k1 _ _ _ _ q
  · exact k1.elim
theorem r_lst {hs : Ev → Rs (List MD)} (h : PA X es (tAs C mg W hs)) : PE X (.List es pos) (tE C mg W (lstM hs)) := pe_weak (pe_lst h) fun σ H Q => by
  rintro ⟨ev, O, S, L, ft, gd, k⟩
  refine ⟨ev, O, S, L, ft, gd, aft_bind k fun as ev1 k1 xs H1 O1 S1 p1 => ?_⟩
  split at k1
  · rename_i hz
    refine ⟨by rw [p1.len]; exact hz, fun p hp => ?_⟩
    by_cases ha : allD as = true
    · rw [if_pos ha] at k1
      obtain ⟨O', q⟩ := (p1.newD ha hp).1
      exact k1 _ _ _ _ q
    · rw [if_neg ha] at k1
      obtain ⟨O', S', q⟩ := (p1.newS hp).1
      exact k1 _ _ _ _ q
  · exact k1.elim
end
end T6

namespace T6
open PySem PySem.Spec PyProof.Rows L2
variable [Tbl]
section
variable {C : Cs} {mg : Str → Option Value} {H H' H1 H2 : Hp} {O O' O1 O2 S S' S1 S2 L L' : Ps} {P : Nat → Prop} {σ τ : L2.St} {ev ev1 ev2 : Ev} {rs rs1 rs2 : List MD} {vs vs1 vs2 : List V}
theorem mem_ents : ∀ {ev : Ev} {σ : L2.St} {e : En}, e ∈ ents ev σ → ∃ j : Nat, ev[j]? = some (some e.2) ∧ σ[j]? = some (some e.1)
  | some md :: ev, some v :: σ, e, h => by
    rcases List.mem_cons.mp (show e ∈ (v, md) :: ents ev σ from h) with rfl | h
    · exact ⟨0, rfl, rfl⟩
    · obtain ⟨j, a, b⟩ := mem_ents h
      exact ⟨j + 1, by simpa using a, by simpa using b⟩
  | some md :: ev, none :: σ, e, h => by
    obtain ⟨j, a, b⟩ := mem_ents (show e ∈ ents ev σ from h)
    exact ⟨j + 1, by simpa using a, by simpa using b⟩
  | none :: ev, s :: σ, e, h => by
    obtain ⟨j, a, b⟩ := mem_ents (show e ∈ ents ev σ from h)
    exact ⟨j + 1, by simpa using a, by simpa using b⟩
  | [], _, _, h => by simp [ents] at h
  | some _ :: _, [], _, h => by simp [ents] at h
  | none :: _, [], _, h => by simp [ents] at h
theorem ents_mem : ∀ {es : List En} {o : List Addr}, Ents C H S L es o → ∀ e ∈ es, ∃ own, Ent C H S L e own
  | [], _, _, _, h => by simp at h
  | x :: es, _, ⟨o1, o2, _, h1, h2⟩, e, h => by
    rcases List.mem_cons.mp h with rfl | h
    · exact ⟨o1, h1⟩
    · exact ents_mem h2 e h
/-- another word about what is lent -/
theorem Ents.relent : ∀ {es : List En} {o : List Addr}, Ents C H S L' es o → (∀ e ∈ es, e.2.1 = Md.lk → ∃ fp, Rep C H e.2.2 e.1 fp ∧ ∀ a ∈ fp, L a ∨ S a) → Ents C H S L es o
  | [], _, h, _ => h
  | e :: es, _, ⟨o1, o2, rfl, h1, h2⟩, k => by
    refine ⟨o1, o2, rfl, ?_, h2.relent fun x hx => k x (List.mem_cons_of_mem _ hx)⟩
    have k1 := k e List.mem_cons_self
    obtain ⟨v, m, d⟩ := e
    cases m
    · exact h1
    · exact h1
    · exact h1
    · exact ⟨h1.1, k1 rfl⟩
theorem Ents.lmono : ∀ {es : List En} {o : List Addr}, Ents C H S L es o → (∀ a, L a → L' a) → Ents C H S L' es o
  | [], _, h, _ => h
  | e :: es, _, ⟨o1, o2, rfl, h1, h2⟩, k => by
    refine ⟨o1, o2, rfl, ?_, h2.lmono k⟩
    obtain ⟨v, m, d⟩ := e
    cases m
    · exact h1
    · exact h1
    · exact h1
    · obtain ⟨e, fp, r, s⟩ := h1
      exact ⟨e, fp, r, fun a ha => (s a ha).imp (k a) id⟩
/-- a slot is lent out, and given back -/
theorem lock_ok {i : Nat} {m : Md} {d0 : D} (ft : Fit ev σ) (gd : Good C H O S L (ents ev σ)) (e : ev[i]? = some (some (m, d0))) (hm : m ≠ .lk) (hs : m ≠ .sh) :
    ∃ OE L', Fit (ev.set i (some (.lk, d0))) σ ∧ Good C H OE S L' (ents (ev.set i (some (.lk, d0))) σ) ∧ (∀ a, L a → L' a) ∧
      ∀ P rs ev2 vs τ O2 S2 H2, P i → Pst C L' P σ (ev.set i (some (.lk, d0))) OE S H rs ev2 vs τ O2 S2 H2 → (∃ d', ev2[i]? = some (some (.lk, d'))) →
        (∀ j, ¬ P j → ∀ d, ev2[j]? = some (some (.lk, d)) → flat d = true) → ∃ O', Pst C L P σ ev O S H rs (ev2.set i (some (m, d0))) vs τ O' S2 H2 := by
  obtain ⟨v, e1, pm, f0⟩ := fit_get ft e
  have il : i < ev.length := (List.getElem?_eq_some_iff.mp e).1
  have gp := gd.perm pm
  obtain ⟨ol, ⟨o1, o2, rfl, h1, h2⟩, nd, mm⟩ := gp.ex
  have nd' := List.nodup_append.mp nd
  have t1 : ∀ a ∈ o1, Trk H a := h1.trk
  have m1 : ∀ a ∈ o1, O a := fun a h => (mm a).mp (List.mem_append_left _ h)
  obtain ⟨pl, fl⟩ := fit_put (md := (Md.lk, d0)) ft il e1
  -- its reading
  have lentR : ∃ fp, Rep C H d0 v fp ∧ ∀ a ∈ fp, a ∈ o1 ∨ S a := by
    cases m
    · exact absurd rfl hs
    · obtain ⟨a, f1, rfl, rfl, q, h⟩ := h1
      refine ⟨a :: f1, ?_, fun b hb => (List.mem_cons.mp hb).elim (fun z => .inl (by rw [z]; simp)) fun z => .inr (q b z)⟩
      rcases h with ⟨ds, vs, rfl, hH, r⟩ | ⟨ks, ds, kvs, rfl, e, hH, r⟩
      · exact ⟨a, vs, f1, rfl, r, .inl ⟨.inl hH, rfl⟩⟩
      · exact ⟨a, kvs, f1, rfl, e, r, .inl hH, rfl⟩
    · exact ⟨o1, h1.1.mono, fun a ha => .inl ha⟩
    · exact absurd rfl hm
  refine ⟨(· ∈ o2), fun a => L a ∨ a ∈ o1, fl, ?_, fun a h => .inl h, fun P rs ev2 vs τ O2 S2 H2 pi p lk' fl' => ?_⟩
  · refine Good.perm (es := (v, (Md.lk, d0)) :: ents (ev.set i none) σ) ?_ ?_
    · refine ⟨⟨o2, ⟨[], o2, rfl, ⟨rfl, ?_⟩, h2.lmono fun a h => .inl h⟩, nd'.2.1, fun _ => Iff.rfl⟩, fun a h => ⟨(gp.os a ((mm a).mp (List.mem_append_right _ h))).1, fun z => z.elim (gp.os a ((mm a).mp (List.mem_append_right _ h))).2 fun z => nd'.2.2 a z a h rfl⟩,
        fun a h z => z.elim (gp.sl a h) fun z => (gp.os a (m1 a z)).1 h, fun a h => ?_, gp.tab⟩
      · obtain ⟨fp, r, s⟩ := lentR
        exact ⟨fp, r, fun a ha => (s a ha).imp .inr id⟩
      · rcases h with h | h | h
        · exact gp.lv a (.inl h)
        · exact gp.lv a (.inr h)
        · exact (t1 a h).ne
    · exact pl.symm
  · -- behind
    obtain ⟨d', lk'⟩ := lk'
    obtain ⟨v', e1', pm', f0'⟩ := fit_get p.fit lk'
    have ev' : v' = v := by
      have := (p.lk i pi).1
      rw [e1', e1] at this
      cases this; rfl
    subst ev'
    have il' : i < ev2.length := (List.getElem?_eq_some_iff.mp lk').1
    obtain ⟨pl', fl2⟩ := fit_put (md := (m, d0)) p.fit il' e1'
    have g2 : Good C H2 O2 S2 (fun a => L a ∨ a ∈ o1) ((v', (Md.lk, d')) :: (vs.zip rs ++ ents (ev2.set i none) τ)) := by
      refine p.good.perm ?_
      refine (pm'.append_left _).trans ?_
      exact List.perm_middle
    obtain ⟨O3, g3, le3⟩ := Good.drop (es := [(v', (Md.lk, d'))]) g2
    have trk2 : ∀ a, a ∈ o2 → Trk H a := h2.trk
    have go := p.go
    have ns : ∀ a, a ∈ o2 → ¬ S a ∧ ¬ L a := fun a h => gp.os a ((mm a).mp (List.mem_append_right _ h))
    have n1 : ∀ a ∈ o1, ¬ a ∈ o2 := fun a h z => nd'.2.2 a h a z rfl
    -- what is lent behind, by the old word
    have old : ∀ x ∈ vs.zip rs ++ ents (ev2.set i none) τ, x.2.1 = Md.lk → ∃ fp, Rep C H2 x.2.2 x.1 fp ∧ ∀ a ∈ fp, L a ∨ S2 a := by
      intro x hx hl
      rcases List.mem_append.mp hx with hx | hx
      · exact absurd hl (p.nl x.2 (List.of_mem_zip hx).2)
      · obtain ⟨j, q1, q2⟩ := mem_ents hx
        have ij : i ≠ j := fun z => by
          subst z
          rw [List.getElem?_set_self il'] at q1; cases q1
        rw [List.getElem?_set_ne ij] at q1
        obtain ⟨w, mx, dx⟩ := x
        have hl : mx = Md.lk := hl
        subst hl
        by_cases pj : P j
        · obtain ⟨s1, s2⟩ := p.lk j pj
          have s3 := s2 dx q1
          rw [List.getElem?_set_ne ij] at s3
          have s4 : σ[j]? = some (some w) := by rw [← s1]; exact q2
          obtain ⟨w', own, s5, en⟩ := slot_ent ft gd s3
          rw [s4] at s5
          cases s5
          obtain ⟨_, fp, r, s⟩ := en
          have hlv := rep_lv r
          refine ⟨fp, r.kp (go.kp trk2 (fun a ha z => (s a ha).elim (ns a z).2 (ns a z).1) hlv), fun a ha => (s a ha).imp id (go.monS a)⟩
        · have fx := fl' j pj dx q1
          obtain ⟨ol3, e3, _⟩ := g3.ex
          obtain ⟨own, _, fp, r, _⟩ := ents_mem e3 _ (List.mem_append_right _ hx)
          exact ⟨[], rep_flat0 fx r, by simp⟩
    obtain ⟨ol3, e3, nd3, mm3⟩ := g3.ex
    have e4 := e3.relent old
    have en1 : Ent C H2 S2 L (v', (m, d0)) o1 := h1.go go trk2 (fun a ha => n1 a ha) ns
    have new1 : ∀ a, O3 a → a ∈ o2 ∨ H a = none := fun a h => go.newO a (le3 a h)
    have d13 : ∀ a ∈ o1, ¬ O3 a := fun a h z => (new1 a z).elim (n1 a h) (t1 a h).ne
    have s13 : ∀ a ∈ o1, ¬ S2 a := fun a h z => by
      rcases go.newS a z with z | z | z
      · exact (gp.os a (m1 a h)).1 z
      · exact n1 a h z
      · exact (t1 a h).ne z
    refine ⟨fun a => a ∈ o1 ∨ O3 a, fl2, ?_, p.len, p.nl, ?_, ?_⟩
    · intro j pj
      obtain ⟨s1, s2⟩ := p.lk j pj
      refine ⟨s1, fun d q => ?_⟩
      by_cases ij : i = j
      · subst ij
        rw [List.getElem?_set_self il'] at q
        cases q
        exact absurd rfl hm
      · rw [List.getElem?_set_ne ij] at q
        have := s2 d q
        rwa [List.getElem?_set_ne ij] at this
    · refine Good.perm (es := (v', (m, d0)) :: (vs.zip rs ++ ents (ev2.set i none) τ)) ?_ ?_
      · refine ⟨⟨o1 ++ ol3, ⟨o1, ol3, rfl, en1, e4⟩, List.nodup_append.mpr ⟨nd'.1, nd3, fun a h b h' z => d13 a h (by rw [z]; exact (mm3 b).mp h')⟩, fun a => List.mem_append.trans (or_congr Iff.rfl (mm3 a))⟩, fun a h => ?_, fun a h z => g3.sl a h (.inl z), fun a h => ?_, g3.tab⟩
        · rcases h with h | h
          · exact ⟨s13 a h, (gp.os a (m1 a h)).2⟩
          · exact ⟨(g3.os a h).1, fun z => (g3.os a h).2 (.inl z)⟩
        · exact g3.lv a (h.imp id .inl)
      · refine List.perm_middle.symm.trans ?_
        exact (pl'.symm).append_left _
    · refine ⟨fun a o h n => go.keep a o h fun z => n ((mm a).mp (List.mem_append_right _ z)), go.code, go.live, fun a h => ?_, go.monS, fun a h => (go.newS a h).imp id fun z => z.imp (fun z => (mm a).mp (List.mem_append_right _ z)) id⟩
      rcases h with h | h
      · exact .inl (m1 a h)
      · exact (new1 a h).imp (fun z => (mm a).mp (List.mem_append_right _ z)) id
end
end T6

namespace T6
open PySem PySem.Spec PyProof.Rows L2
variable [Tbl]

/-- how a def ends: its value and what its arguments are worth behind (none: nothing is told of it) -/
inductive Rf where
  | ok (r : MD) (fs : Ev) | ex (c : Str) (p : Option MD) (fs : Ev) | no
/-- an argument: a value given away, a thing lent, a name handed over -/
inductive Ag where
  | tp (r : MD) | vl (s : Bool) (d : D) | mv (i : Nat)
abbrev Arp (α : Type) := (List Ag → Ev → Rs α) → Ev → Rs α
def aNil {α : Type} : Arp α := fun k ev => k [] ev
def aT {α : Type} (f : Ev → Rs MD) (A : Arp α) : Arp α := fun k ev => (f ev).bind fun r ev1 => A (fun as => k (.tp r :: as)) ev1
def aL {α : Type} (f : Ev → Rs MD) (A : Arp α) : Arp α := fun k ev => (f ev).bind fun r ev1 => A (fun as => k (.vl true r.2 :: as)) ev1
def aV {α : Type} (f : Ev → Option Pv) (A : Arp α) : Arp α := fun k ev => match f ev with
  | some (.fl d) => A (fun as => k (.vl true d :: as)) ev
  | some (.vw i _ d) => if flat d = true then A (fun as => k (.vl true d :: as)) ev else match ev[i]? with
    | some (some (.lk, _)) => A (fun as => k (.vl false d :: as)) ev
    | some (some (.sh, _)) => A (fun as => k (.vl true d :: as)) ev
    | _ => .no
  | none => .no
def aM {α : Type} (i : Nat) (A : Arp α) : Arp α := fun k ev => match ev[i]? with
  | some (some _) => A (fun as => k (.mv i :: as)) ev
  | _ => .no
def takeA : List Ag → Ev → Option (List MD × Ev)
  | [], ev => some ([], ev)
  | .tp r :: as, ev => (takeA as ev).map fun p => (r :: p.1, p.2)
  | .vl _ d :: as, ev => (takeA as ev).map fun p => ((.lk, d) :: p.1, p.2)
  | .mv i :: as, ev => match ev[i]? with
    | some (some (m, d)) => if m = .lk then none else (takeA as (ev.set i none)).map fun p => ((m, d) :: p.1, p.2)
    | _ => none
def put1 : Option MD → Option MD
  | some (.lk, _) => none
  | f => f
def putA : List Ag → Ev → Ev → Ev
  | .mv i :: as, f :: fs, ev => putA as fs (ev.set i (put1 f))
  | .tp _ :: as, _ :: fs, ev => putA as fs ev
  | .vl _ _ :: as, _ :: fs, ev => putA as fs ev
  | _, _, ev => ev
def callF (F : List MD → Rf) (as : List Ag) (ev : Ev) : Rs MD := match takeA as ev with
  | some (es, ev1) => match F es with
    | .ok r fs => .ok r (putA as fs ev1)
    | .ex c p fs => .ex c p (putA as fs ev1)
    | .no => .no
  | none => .no
/-- a slot is lent while a piece runs -/
def unlockS (i : Nat) (m : Md) (d0 : D) {α : Type} (x : Rs α) : Rs α := match x with
  | .ok a ev2 => match ev2[i]? with
    | some (some (.lk, _)) => .ok a (ev2.set i (some (m, d0)))
    | _ => .no
  | .ex c p ev2 => match ev2[i]? with
    | some (some (.lk, _)) => .ex c p (ev2.set i (some (m, d0)))
    | _ => .no
  | .no => .no
def lockS {α : Type} (i : Nat) (k : Ev → Rs α) : Ev → Rs α := fun ev => match ev[i]? with
  | some (some (.lk, _)) => k ev
  | some (some (.sh, _)) => k ev
  | some (some (m, d0)) => unlockS i m d0 (k (ev.set i (some (.lk, d0))))
  | _ => .no
/-- a look that may be lent -/
def vwD (f : Ev → Option Pv) : Ev → Option D := fun ev => match f ev with
  | some (.fl d) => some d
  | some (.vw i _ d) => if flat d = true then some d else match ev[i]? with
    | some (some (.lk, _)) => some d
    | some (some (.sh, _)) => some d
    | _ => none
  | none => none

section
variable (C : Cs) (mg : Str → Option Value)
inductive ArgR (H : Hp) (S L : Ps) (σ : L2.St) : List Ag → List V → List V → List MD → Prop
  | nil : ArgR H S L σ [] [] [] []
  | tp {r v as vs tv tr} : ArgR H S L σ as vs tv tr → ArgR H S L σ (.tp r :: as) (v :: vs) (v :: tv) (r :: tr)
  | vl {s d v as vs tv tr fp} : Rep C H d v fp → (∀ a ∈ fp, L a ∨ S a) → (s = true → ∀ a ∈ fp, S a) → ArgR H S L σ as vs tv tr → ArgR H S L σ (.vl s d :: as) (v :: vs) tv tr
  | mv {i v as vs tv tr} : σ[i]? = some (some v) → ArgR H S L σ as vs tv tr → ArgR H S L σ (.mv i :: as) (v :: vs) tv tr
/-- what is shared or lent stays as it is read -/
def Kpt (L : Ps) (H : Hp) (S : Ps) (H' : Hp) (S' : Ps) : Prop := (∀ d v fp, Rep C H d v fp → (∀ a ∈ fp, L a ∨ S a) → Rep C H' d v fp ∧ ∀ a ∈ fp, L a ∨ S' a) ∧ ∀ a, S a → S' a
def spF (F : List MD → Rf) : Sp := fun vs H Q E => ∃ (es : List MD) (O S L : Ps), es.length = vs.length ∧ Good C H O S L (ents (es.map some) (vs.map some)) ∧ match F es with
  | .ok r fs => ∀ v H' O' S', Pst C L (fun _ => True) (vs.map some) (es.map some) O S H [r] fs [v] (vs.map some) O' S' H' → Q v H'
  | .ex c p fs => ∀ cls dd rs xs H' O' S', Pst C L (fun _ => True) (vs.map some) (es.map some) O S H rs fs xs (vs.map some) O' S' H' → XOk mg c p H' cls dd rs xs → E cls dd H'
  | .no => False
def tAC {α : Type} (W : WX) (A : Arp α) : TA := fun σ H Q => ∃ (k : List Ag → Ev → Rs α) (kont : α → Ev → Prop) (ev0 : Ev) (O0 S0 : Ps) (H0 : Hp) (L : Ps) (rs0 : List MD) (vs0 : List V) (ev1 : Ev) (O1 S1 : Ps),
  Pst C L (fun _ => True) σ ev0 O0 S0 H0 rs0 ev1 vs0 σ O1 S1 H ∧
  Aft C mg σ ev0 O0 S0 L H0 W (A k ev1) kont ∧
  ∀ as vs tvs trs ev2 O2 S2 H2, Pst C L (fun _ => True) σ ev0 O0 S0 H0 (rs0 ++ trs) ev2 (vs0 ++ tvs) σ O2 S2 H2 → Kpt C L H S1 H2 S2 → ArgR C H2 S2 L σ as vs tvs trs →
    Aft C mg σ ev0 O0 S0 L H0 W (k as ev2) kont → Q vs H2
end

section
variable {C : Cs} {mg : Str → Option Value} {X : Cx} {W : WX} {a b e : Expr} {es : List Expr} {H H' H1 H2 : Hp} {O O' O1 O2 S S' S1 S2 L : Ps} {σ τ : L2.St} {ev ev1 ev2 : Ev} {pos : Pos} {rs rs1 rs2 : List MD} {vs vs1 vs2 : List V}
theorem Kpt.refl : Kpt C L H S H S := ⟨fun _ _ _ r s => ⟨r, s⟩, fun _ h => h⟩
theorem Kpt.trans (h : Kpt C L H S H1 S1) (k : Kpt C L H1 S1 H2 S2) : Kpt C L H S H2 S2 := ⟨fun d v fp r s => let ⟨r1, s1⟩ := h.1 d v fp r s; k.1 d v fp r1 s1, fun a z => k.2 a (h.2 a z)⟩
theorem Go.kpt {es : List En} (g : Go O S H O' S' H') (gd : Good C H O S L es) : Kpt C L H S H' S' := ⟨fun d v fp r s =>
  ⟨r.kp (g.kp gd.trk (fun a ha z => (s a ha).elim (gd.os a z).2 (gd.os a z).1) (rep_lv r)), fun a ha => (s a ha).imp id (g.monS a)⟩, g.monS⟩
theorem ArgR.kpt (k : Kpt C L H S H1 S1) : ∀ {as : List Ag} {vs tv : List V} {tr : List MD}, ArgR C H S L σ as vs tv tr → ArgR C H1 S1 L σ as vs tv tr
  | _, _, _, _, .nil => .nil
  | _, _, _, _, .tp h => .tp (ArgR.kpt k h)
  | _, _, _, _, .vl r s t h => let ⟨r1, s1⟩ := k.1 _ _ _ r s; .vl r1 s1 (fun z a ha => k.2 a (t z a ha)) (ArgR.kpt k h)
  | _, _, _, _, .mv e h => .mv e (ArgR.kpt k h)
theorem a_nil {α : Type} : PA X [] (tAC C mg W (aNil (α := α))) := pa_weak pa_nil fun σ H Q => by
  rintro ⟨k, R, ev0, O0, S0, H0, L, rs0, vs0, ev1, O1, S1, p, af, fin⟩
  exact fin [] [] [] [] ev1 O1 S1 H (by simpa using p) .refl .nil af
/-- an operand as an argument -/
def OpdW (C : Cs) (mg : Str → Option Value) (W : WX) (t : TE) (F : ∀ {α : Type}, Arp α → Arp α) : Prop := ∀ (α : Type) (A : Arp α) (tr : TA), (∀ σ H Q, tAC C mg W A σ H Q → tr σ H Q) → ∀ σ H Q, tAC C mg W (F A) σ H Q → tCons t tr σ H Q
theorem ow_tp {f : Ev → Rs MD} : OpdW C mg W (tE C mg W f) (fun A => aT f A) := fun α A tr w σ H Q => by
  rintro ⟨k, R, ev0, O0, S0, H0, L, rs0, vs0, ev1, O1, S1, p, af, fin⟩
  obtain ⟨OE, g1, nx⟩ := p.next
  refine ⟨ev1, OE, S1, L, p.fit, g1, aft_next p.len (fun rs2 ev2 vs2 ρ O2 S2 H2 q => nx _ _ _ _ _ _ _ q) (aft_bind af fun r ev2 z => z) fun r ev2 af2 v H1 O2 S2 q => ?_⟩
  obtain ⟨O3, q3⟩ := nx _ _ _ _ _ _ _ q
  refine w σ H1 _ ⟨fun as => k (.tp r :: as), R, ev0, O0, S0, H0, L, rs0 ++ [r], vs0 ++ [v], ev2, O3, S2, q3, af2, fun as vs tvs trs ev3 O4 S4 H4 p4 kp ar af4 => ?_⟩
  exact fin (.tp r :: as) (v :: vs) (v :: tvs) (r :: trs) ev3 O4 S4 H4 (by simpa using p4) ((q.go.kpt g1).trans kp) (.tp ar) af4
/-- the last result is shared -/
theorem Pst.shareLast {P : Nat → Prop} {r : MD} {v : V} (p : Pst C L P σ ev O S H (rs1 ++ [r]) ev1 (vs1 ++ [v]) τ O1 S1 H1) (hl : vs1.length = rs1.length) :
    ∃ O2 S2 fp, Pst C L P σ ev O S H rs1 ev1 vs1 τ O2 S2 H1 ∧ Rep C H1 r.2 v fp ∧ (∀ a ∈ fp, S2 a) ∧ Go O1 S1 H1 O2 S2 H1 := by
  have g := p.good
  rw [zip_app hl] at g
  have g' : Good C H1 O1 S1 L ((v, r) :: (vs1.zip rs1 ++ ents ev1 τ)) := g.perm (by
    rw [List.append_assoc]
    exact List.perm_middle)
  obtain ⟨O2, S2, g2, a1, a2, a3, _⟩ := g'.share (p.nl r (by simp))
  obtain ⟨_, _, fp, r', s⟩ := good_ent g2
  obtain ⟨O3, g3, b1⟩ := Good.drop (es := [(v, (Md.sh, r.2))]) g2
  have go : Go O1 S1 H1 O3 S2 H1 := ⟨fun _ _ h _ => .inl h, fun _ h => h, fun _ h => h, fun a h => .inl (a1 a (b1 a h)), a2, fun a h => (a3 a h).imp id .inl⟩
  exact ⟨O3, S2, fp, ⟨p.fit, p.lk, hl, fun x hx => p.nl x (List.mem_append_left _ hx), g3, p.go.trans go⟩, r', s, go⟩
theorem ow_l {f : Ev → Rs MD} : OpdW C mg W (tE C mg W f) (fun A => aL f A) := fun α A tr w σ H Q => by
  rintro ⟨k, R, ev0, O0, S0, H0, L, rs0, vs0, ev1, O1, S1, p, af, fin⟩
  obtain ⟨OE, g1, nx⟩ := p.next
  refine ⟨ev1, OE, S1, L, p.fit, g1, aft_next p.len (fun rs2 ev2 vs2 ρ O2 S2 H2 q => nx _ _ _ _ _ _ _ q) (aft_bind af fun r ev2 z => z) fun r ev2 af2 v H1 O2 S2 q => ?_⟩
  obtain ⟨O3, q3⟩ := nx _ _ _ _ _ _ _ q
  obtain ⟨O5, S5, fp, q5, rr, ss, go5⟩ := q3.shareLast p.len
  refine w σ H1 _ ⟨fun as => k (.vl true r.2 :: as), R, ev0, O0, S0, H0, L, rs0, vs0, ev2, O5, S5, q5, af2, fun as vs tvs trs ev3 O4 S4 H4 p4 kp ar af4 => ?_⟩
  have kq : Kpt C L H1 S2 H1 S5 := ⟨fun d v fp r s => ⟨r, fun a ha => (s a ha).imp id (go5.monS a)⟩, go5.monS⟩
  obtain ⟨r6, s6⟩ := kp.1 _ _ _ rr (fun a ha => .inr (ss a ha))
  exact fin (.vl true r.2 :: as) (v :: vs) tvs trs ev3 O4 S4 H4 p4 (((q.go.kpt g1).trans kq).trans kp) (.vl r6 s6 (fun _ a ha => kp.2 a (ss a ha)) ar) af4
theorem ow_v {f : Ev → Option Pv} : OpdW C mg W (tP C f) (fun A => aV f A) := fun α A tr w σ H Q => by
  rintro ⟨k, R, ev0, O0, S0, H0, L, rs0, vs0, ev1, O1, S1, p, af, fin⟩
  obtain ⟨OE, g1, nx⟩ := p.next
  have af : Aft C mg σ ev0 O0 S0 L H0 W (aV f A k ev1) R := af
  unfold aV at af
  have key : ∀ (b : Bool) d v fp, Rep C H d v fp → (∀ a ∈ fp, L a ∨ S1 a) → (b = true → ∀ a ∈ fp, S1 a) → Aft C mg σ ev0 O0 S0 L H0 W (A (fun as => k (.vl b d :: as)) ev1) R →
      tr σ H (fun xs H2 => Q (v :: xs) H2) := fun b d v fp r s t af2 => w σ H _
    ⟨fun as => k (.vl b d :: as), R, ev0, O0, S0, H0, L, rs0, vs0, ev1, O1, S1, p, af2, fun as vs tvs trs ev3 O4 S4 H4 p4 kp ar af4 =>
      let ⟨r6, s6⟩ := kp.1 _ _ _ r s
      fin (.vl b d :: as) (v :: vs) tvs trs ev3 O4 S4 H4 p4 kp (.vl r6 s6 (fun z a ha => kp.2 a (t z a ha)) ar) af4⟩
  split at af
  · rename_i d hf
    exact ⟨ev1, OE, S1, L, p.fit, g1, _, hf, fun v ok => key true d v [] ok.2 (by simp) (by simp) af⟩
  · rename_i i t d hf
    split at af
    · rename_i fl
      refine ⟨ev1, OE, S1, L, p.fit, g1, _, hf, fun v ok => ?_⟩
      obtain ⟨fp, r⟩ := pv_rep ok
      exact key true d v [] (rep_flat0 fl r) (by simp) (by simp) af
    · split at af
      · rename_i d0 he
        refine ⟨ev1, OE, S1, L, p.fit, g1, _, hf, fun v ok => ?_⟩
        obtain ⟨v0, m, d1, e0, e1, et, hr, h⟩ := ok
        rw [he] at e1
        cases e1
        obtain ⟨fp, r, s⟩ := h
        exact key false d v fp r s (fun z => nomatch z) af
      · rename_i d0 he
        refine ⟨ev1, OE, S1, L, p.fit, g1, _, hf, fun v ok => ?_⟩
        obtain ⟨v0, m, d1, e0, e1, et, hr, h⟩ := ok
        rw [he] at e1
        cases e1
        obtain ⟨fp, r, s⟩ := h
        exact key true d v fp r (fun a ha => .inr (s a ha)) (fun _ => s) af
      · exact af.elim
  · exact af.elim
theorem a_tp {f : Ev → Rs MD} {α : Type} {A : Arp α} (ha : PE X e (tE C mg W f)) (hr : PA X es (tAC C mg W A)) (hst : starEach (e :: es) X.env = (false, eval e X.env) :: starEach es X.env := by rfl) : PA X (e :: es) (tAC C mg W (aT f A)) :=
  pa_weak (pa_cons ha hr hst) (ow_tp α A _ fun _ _ _ z => z)
theorem a_l {f : Ev → Rs MD} {α : Type} {A : Arp α} (ha : PE X e (tE C mg W f)) (hr : PA X es (tAC C mg W A)) (hst : starEach (e :: es) X.env = (false, eval e X.env) :: starEach es X.env := by rfl) : PA X (e :: es) (tAC C mg W (aL f A)) :=
  pa_weak (pa_cons ha hr hst) (ow_l α A _ fun _ _ _ z => z)
theorem a_v {f : Ev → Option Pv} {α : Type} {A : Arp α} (ha : PE X e (tP C f)) (hr : PA X es (tAC C mg W A)) (hst : starEach (e :: es) X.env = (false, eval e X.env) :: starEach es X.env := by rfl) : PA X (e :: es) (tAC C mg W (aV f A)) :=
  pa_weak (pa_cons ha hr hst) (ow_v α A _ fun _ _ _ z => z)
theorem a_mv {i : Nat} {x : Str} {α : Type} {A : Arp α} (ha : PE X (.Name x pos) (tVar i)) (hr : PA X es (tAC C mg W A)) (hst : starEach (.Name x pos :: es) X.env = (false, eval (.Name x pos) X.env) :: starEach es X.env := by rfl) : PA X (.Name x pos :: es) (tAC C mg W (aM i A)) := pa_weak (pa_cons ha hr hst) fun σ H Q => by
  rintro ⟨k, R, ev0, O0, S0, H0, L, rs0, vs0, ev1, O1, S1, p, af, fin⟩
  unfold aM at af
  split at af
  · rename_i md he
    obtain ⟨v, e1, _, _⟩ := fit_get p.fit he
    exact ⟨v, e1, fun as => k (.mv i :: as), R, ev0, O0, S0, H0, L, rs0, vs0, ev1, O1, S1, p, af, fun as vs tvs trs ev3 O4 S4 H4 p4 kp ar af4 =>
      fin (.mv i :: as) (v :: vs) tvs trs ev3 O4 S4 H4 p4 kp (.mv e1 ar) af4⟩
  · exact af.elim

/-! ### the call -/
theorem ents_map : ∀ {es : List MD} {vs : List V}, ents (es.map some) (vs.map some) = vs.zip es
  | [], [] => rfl
  | [], _ :: _ => rfl
  | _ :: _, [] => rfl
  | r :: es, v :: vs => by
    show (v, r) :: ents (es.map some) (vs.map some) = _
    rw [ents_map]; rfl
theorem fit_map : ∀ {es : List MD} {vs : List V}, es.length = vs.length → Fit (es.map some) (vs.map some)
  | [], [], _ => trivial
  | r :: es, v :: vs, h => fit_map (es := es) (vs := vs) (by simpa using h)
  | [], _ :: _, h => by simp at h
  | _ :: _, [], h => by simp at h
theorem Good.lend {es : List En} {d : D} {v : V} {fp : List Addr} (g : Good C H O S L es) (r : Rep C H d v fp) (h : ∀ a ∈ fp, L a ∨ S a) : Good C H O S L ((v, (Md.lk, d)) :: es) := by
  obtain ⟨ol, e, nd, m⟩ := g.ex
  exact ⟨⟨ol, ⟨[], ol, rfl, ⟨rfl, fp, r, h⟩, e⟩, nd, m⟩, g.os, g.sl, g.lv, g.tab⟩
theorem take_ok : ∀ {as : List Ag} {vs tv : List V} {tr es : List MD} {ev ev1 : Ev} {Y : List En}, ArgR C H S L σ as vs tv tr → takeA as ev = some (es, ev1) → Fit ev σ → Good C H O S L (Y ++ (tv.zip tr ++ ents ev σ)) →
    Fit ev1 σ ∧ es.length = vs.length ∧ Good C H O S L (Y ++ (vs.zip es ++ ents ev1 σ)) ∧ (∀ P, LkS P ev σ ev1 σ)
  | _, _, _, _, es, ev, ev1, Y, .nil, h, ft, g => by
    cases h
    exact ⟨ft, rfl, g, fun P => .refl _ _⟩
  | _, _, _, _, es, ev, ev1, Y, .tp (r := r) (v := v) ar, h, ft, g => by
    obtain ⟨⟨es', ev'⟩, h', e⟩ := Option.map_eq_some_iff.mp h
    cases e
    obtain ⟨f1, l1, g1, k1⟩ := take_ok (Y := Y ++ [(v, r)]) ar h' ft (by simpa using g)
    exact ⟨f1, by simp [l1], by simpa using g1, k1⟩
  | _, _, _, _, es, ev, ev1, Y, .vl (d := d) (v := v) (fp := fp) r s t ar, h, ft, g => by
    obtain ⟨⟨es', ev'⟩, h', e⟩ := Option.map_eq_some_iff.mp h
    cases e
    obtain ⟨f1, l1, g1, k1⟩ := take_ok (Y := (v, (Md.lk, d)) :: Y) ar h' ft (g.lend r s)
    refine ⟨f1, by simp [l1], g1.perm ?_, k1⟩
    simpa using (List.perm_middle (l₁ := Y) (a := (v, (Md.lk, d)))).symm
  | _, _, _, _, es, ev, ev1, Y, .mv (i := i) (v := v) e1 ar, h, ft, g => by
    unfold takeA at h
    split at h
    · rename_i m d he
      split at h
      · cases h
      · rename_i hm
        obtain ⟨⟨es', ev'⟩, h', e⟩ := Option.map_eq_some_iff.mp h
        cases e
        obtain ⟨w, e2, pm, f0⟩ := fit_get ft he
        rw [e1] at e2
        cases e2
        obtain ⟨f1, l1, g1, k1⟩ := take_ok (Y := (v, (m, d)) :: Y) ar h' f0 (g.perm (by
          refine ((pm.append_left _).append_left _).trans ?_
          refine (List.Perm.append_left Y List.perm_middle).trans ?_
          exact List.perm_middle))
        refine ⟨f1, by simp [l1], g1.perm ?_, fun P => (LkS.put (s := none) (fun d z => by cases z)).trans (k1 P)⟩
        simpa using (List.perm_middle (l₁ := Y) (a := (v, (m, d)))).symm
    · cases h
theorem perm3 {Y E q B : List En} : (Y ++ (E ++ (q ++ B))).Perm (q ++ (Y ++ (E ++ B))) := by
  have : ((Y ++ E) ++ q ++ B).Perm (q ++ (Y ++ E) ++ B) := List.perm_append_comm.append_right B
  simpa [List.append_assoc] using this
theorem put_ok {as : List Ag} {vs tv : List V} {tr : List MD} (ar : ArgR C H S L σ as vs tv tr) : ∀ {fs ev : Ev} {Y : List En} {O : Ps}, Fit ev σ → Fit fs (vs.map some) → Good C H1 O S1 L (Y ++ (ents fs (vs.map some) ++ ents ev σ)) →
    ∃ O', Fit (putA as fs ev) σ ∧ Good C H1 O' S1 L (Y ++ ents (putA as fs ev) σ) ∧ (∀ a, O' a → O a) ∧ ∀ P, LkS P ev σ (putA as fs ev) σ := by
  have sub : ∀ {f : Option MD} {fs ev : Ev} {v : V} {vs : List V} {Y : List En} {O : Ps}, Fit (f :: fs) ((v :: vs).map some) → Good C H1 O S1 L (Y ++ (ents (f :: fs) ((v :: vs).map some) ++ ents ev σ)) →
      ∃ O1, Good C H1 O1 S1 L (Y ++ (ents fs (vs.map some) ++ ents ev σ)) ∧ (∀ a, O1 a → O a) ∧ Fit fs (vs.map some) := by
    intro f fs ev v vs Y O ff g
    cases f with
    | none => exact ⟨O, g, fun _ h => h, ff⟩
    | some md =>
      obtain ⟨O1, g1, le⟩ := Good.drop (es := [(v, md)]) (g.perm (List.perm_middle (l₁ := Y)))
      exact ⟨O1, g1, le, ff⟩
  induction ar with
  | nil =>
    intro fs ev Y O ft ff g
    cases fs with
    | nil => exact ⟨O, ft, g, fun _ h => h, fun P => .refl _ _⟩
    | cons f fs => cases f <;> exact ff.elim
  | tp ar ih =>
    intro fs ev Y O ft ff g
    cases fs with
    | nil => exact ff.elim
    | cons f fs =>
      obtain ⟨O1, g1, le, ff1⟩ := sub ff g
      obtain ⟨O2, a, b, c, k⟩ := ih ft ff1 g1
      exact ⟨O2, a, b, fun x h => le x (c x h), k⟩
  | vl _ _ _ ar ih =>
    intro fs ev Y O ft ff g
    cases fs with
    | nil => exact ff.elim
    | cons f fs =>
      obtain ⟨O1, g1, le, ff1⟩ := sub ff g
      obtain ⟨O2, a, b, c, k⟩ := ih ft ff1 g1
      exact ⟨O2, a, b, fun x h => le x (c x h), k⟩
  | @mv i v as vs tv tr e1 ar ih =>
    intro fs ev Y O ft ff g
    cases fs with
    | nil => exact ff.elim
    | cons f fs =>
      have sub2 : ∃ O1, Good C H1 O1 S1 L (Y ++ (ents fs (vs.map some) ++ ents (ev.set i (put1 f)) σ)) ∧ (∀ a, O1 a → O a) ∧ Fit fs (vs.map some) ∧ Fit (ev.set i (put1 f)) σ := by
        obtain ⟨q, pq, f0⟩ := ents_none (i := i) ft
        have bare : put1 f = none → ∃ O1, Good C H1 O1 S1 L (Y ++ (ents fs (vs.map some) ++ ents (ev.set i (put1 f)) σ)) ∧ (∀ a, O1 a → O a) ∧ Fit fs (vs.map some) ∧ Fit (ev.set i (put1 f)) σ := fun e => by
          rw [e]
          obtain ⟨O1, g1, le, ff1⟩ := sub ff g
          obtain ⟨O2, g2, le2⟩ := Good.drop (g1.perm (((pq.append_left _).append_left _).trans perm3))
          exact ⟨O2, g2, fun a h => le a (le2 a h), ff1, f0⟩
        cases f with
        | none => exact bare rfl
        | some md =>
          by_cases hl : md.1 = .lk
          · obtain ⟨m, d⟩ := md
            have hl : m = .lk := hl
            subst hl
            exact bare rfl
          · have e : put1 (some md) = some md := by
              obtain ⟨m, d⟩ := md
              cases m
              · rfl
              · rfl
              · rfl
              · exact absurd rfl hl
            rw [e]
            by_cases il : i < ev.length
            · obtain ⟨pp, fp⟩ := fit_put (md := md) ft il e1
              have g1 : Good C H1 O S1 L (Y ++ ([(v, md)] ++ (ents fs (vs.map some) ++ (q ++ ents (ev.set i none) σ)))) := g.perm (by
                refine List.Perm.append_left Y ?_
                exact (pq.append_left _).cons _)
              have g2 := g1.perm (show (Y ++ ([(v, md)] ++ (ents fs (vs.map some) ++ (q ++ ents (ev.set i none) σ)))).Perm (q ++ (Y ++ (ents fs (vs.map some) ++ ((v, md) :: ents (ev.set i none) σ)))) from by
                have h1 : (Y ++ ([(v, md)] ++ (ents fs (vs.map some) ++ (q ++ ents (ev.set i none) σ)))).Perm (q ++ (Y ++ ([(v, md)] ++ (ents fs (vs.map some) ++ ents (ev.set i none) σ)))) := by
                  have := perm3 (Y := Y) (E := [(v, md)] ++ ents fs (vs.map some)) (q := q) (B := ents (ev.set i none) σ)
                  simpa [List.append_assoc] using this
                refine h1.trans (List.Perm.append_left q (List.Perm.append_left Y ?_))
                exact (List.perm_middle (a := (v, md)) (l₁ := ents fs (vs.map some)) (l₂ := ents (ev.set i none) σ)).symm)
              obtain ⟨O2, g3, le2⟩ := Good.drop g2
              exact ⟨O2, g3.perm (List.Perm.append_left Y (List.Perm.append_left _ pp.symm)), le2, ff, fp⟩
            · have e2 : ev.set i (some md) = ev.set i none := by
                rw [List.set_eq_of_length_le (by omega), List.set_eq_of_length_le (by omega)]
              rw [e2]
              obtain ⟨O1, g1, le, ff1⟩ := sub ff g
              obtain ⟨O2, g2, le2⟩ := Good.drop (g1.perm (((pq.append_left _).append_left _).trans perm3))
              exact ⟨O2, g2, fun a h => le a (le2 a h), ff1, f0⟩
      obtain ⟨O1, g1, le, ff1, ft1⟩ := sub2
      obtain ⟨O2, a, b, c, k⟩ := ih ft1 ff1 g1
      refine ⟨O2, a, b, fun x h => le x (c x h), fun P => (LkS.put fun d z => ?_).trans (k P)⟩
      unfold put1 at z
      split at z
      · cases z
      · subst z
        rename_i hn
        exact hn d rfl
end
end T6

namespace T6
open PySem PySem.Spec PyProof.Rows L2
variable [Tbl]
/-- how a statement ends -/
inductive Fl where
  | nx (ev : Ev) | rt (r : MD) (ev : Ev) | bk (ev : Ev) | ct (ev : Ev) | ex (c : Str) (p : Option MD) (ev : Ev) | no
def bndS {α : Type} (x : Rs α) (k : α → Ev → Fl) : Fl := match x with
  | .ok a ev => k a ev
  | .ex c p ev => .ex c p ev
  | .no => .no
def seqS (s t : Ev → Fl) : Ev → Fl := fun ev => match s ev with
  | .nx ev1 => t ev1
  | x => x
def skipS : Ev → Fl := fun ev => .nx ev
def breakS : Ev → Fl := fun ev => .bk ev
def contS : Ev → Fl := fun ev => .ct ev
def exprS (f : Ev → Rs MD) : Ev → Fl := fun ev => bndS (f ev) fun _ ev1 => .nx ev1
def retS (f : Ev → Rs MD) : Ev → Fl := fun ev => bndS (f ev) fun r ev1 => .rt r ev1
def retN : Ev → Fl := fun ev => .rt (.dp, .non) ev
def setS (i : Nat) (f : Ev → Rs MD) : Ev → Fl := fun ev => bndS (f ev) fun r ev1 => if i < ev1.length then .nx (ev1.set i (some r)) else .no
/-- a name for what is looked at: lent further where it was lent -/
def setV (i : Nat) (f : Ev → Option Pv) : Ev → Fl := fun ev => match f ev with
  | some (.vw j _ d) => if flat d = true then (if i < ev.length then .nx (ev.set i (some (.dp, d))) else .no) else match ev[j]? with
    | some (some (.lk, _)) => if i < ev.length then .nx (ev.set i (some (.lk, d))) else .no
    | _ => setS i (capM f) ev
  | _ => setS i (capM f) ev
def ifP (c : Ev → Option Bool) (s t : Ev → Fl) : Ev → Fl := fun ev => match c ev with
  | some true => s ev
  | some false => t ev
  | none => .no
def ifS (c : Ev → Rs Bool) (s t : Ev → Fl) : Ev → Fl := fun ev => bndS (c ev) fun b ev1 => if b = true then s ev1 else t ev1
def raiseS (c : Str) : Ev → Fl := fun ev => .ex c none ev
/-- a def: n parameters, m names in all; ks: which parameters keep what they were handed -/
def finF (ks : List Bool) (ev : Ev) : Ev := (ev.take ks.length).zipWith (fun s k => if k = true then s else none) ks
def bodyF (m : Nat) (ks : List Bool) (s : Ev → Fl) : List MD → Rf := fun es =>
  if es.length = ks.length then match s (es.map some ++ List.replicate (m - ks.length) none) with
    | .nx ev => if ks.length ≤ ev.length then .ok (.dp, .non) (finF ks ev) else .no
    | .rt r ev => if ks.length ≤ ev.length then .ok r (finF ks ev) else .no
    | .ex c p ev => if ks.length ≤ ev.length then .ex c p (finF ks ev) else .no
    | _ => .no
  else .no

section
variable (C : Cs) (mg : Str → Option Value)
def AftS (P : Nat → Prop) (σ : L2.St) (ev : Ev) (O S L : Ps) (H : Hp) (W : WX) (D : Ends) (x : Fl) : Prop := match x with
  | .nx ev' => ∀ τ O' S' H', Pst C L P σ ev O S H [] ev' [] τ O' S' H' → D.nx τ H'
  | .rt r ev' => ∀ v τ O' S' H', Pst C L P σ ev O S H [r] ev' [v] τ O' S' H' → D.rt v H'
  | .bk ev' => ∀ τ O' S' H', Pst C L P σ ev O S H [] ev' [] τ O' S' H' → D.bk τ H'
  | .ct ev' => ∀ τ O' S' H', Pst C L P σ ev O S H [] ev' [] τ O' S' H' → D.ct τ H'
  | .ex c p ev' => ∀ cls dd rs vs τ O' S' H', Pst C L P σ ev O S H rs ev' vs τ O' S' H' → XOk mg c p H' cls dd rs vs → W cls dd τ H'
  | .no => False
def tS (P : Nat → Prop) (W : WX) (s : Ev → Fl) : TS := fun D σ H => ∃ ev O S L, Fit ev σ ∧ Good C H O S L (ents ev σ) ∧ AftS C mg P σ ev O S L H W D (s ev)
end
section
variable {K : PySem.W.Frag} {C : Cs} {mg : Str → Option Value} {X : Cx} {W : WX} {a b e : Expr} {es : List Expr} {H H' H1 H2 : Hp} {O O' O1 O2 S S' S1 S2 L : Ps} {P P' : Nat → Prop} {σ τ : L2.St} {ev ev1 ev2 : Ev} {pos : Pos} {rs rs1 rs2 : List MD} {vs vs1 vs2 : List V} {D : Ends}
theorem Pst.sub (p : Pst C L P σ ev O S H rs ev1 vs τ O1 S1 H1) (h : ∀ j, P' j → P j) : Pst C L P' σ ev O S H rs ev1 vs τ O1 S1 H1 := ⟨p.fit, p.lk.sub h, p.len, p.nl, p.good, p.go⟩
theorem Pst.all (p : Pst C L (fun _ => True) σ ev O S H rs ev1 vs τ O1 S1 H1) : Pst C L P σ ev O S H rs ev1 vs τ O1 S1 H1 := p.sub fun _ _ => trivial
theorem aftS_bind {α : Type} {x : Rs α} {fn : α → Ev → Fl} {k' : α → Ev → Prop} (h : AftS C mg P σ ev O S L H W D (bndS x fn)) (w : ∀ a ev1, AftS C mg P σ ev O S L H W D (fn a ev1) → k' a ev1) : Aft C mg σ ev O S L H W x k' := by
  cases x with
  | ok a ev1 => exact w a ev1 h
  | ex c p ev1 => exact fun cls dd rs vs H' O' S' q xo => h cls dd rs vs σ O' S' H' q.all xo
  | no => exact h
/-- from behind a piece that left no result -/
theorem aftS_next {x : Fl} (p : Pst C L P σ ev O S H [] ev1 [] τ O1 S1 H1) (h : AftS C mg P σ ev O S L H W D x) : AftS C mg P τ ev1 O1 S1 L H1 W D x := by
  have nx : ∀ {rs2 ev2 vs2 ρ O2 S2 H2}, Pst C L P τ ev1 O1 S1 H1 rs2 ev2 vs2 ρ O2 S2 H2 → Pst C L P σ ev O S H rs2 ev2 vs2 ρ O2 S2 H2 := fun q =>
    ⟨q.fit, p.lk.trans q.lk, q.len, q.nl, q.good, p.go.trans q.go⟩
  cases x with
  | nx ev' => exact fun τ O' S' H' q => h τ O' S' H' (nx q)
  | rt r ev' => exact fun v τ O' S' H' q => h v τ O' S' H' (nx q)
  | bk ev' => exact fun τ O' S' H' q => h τ O' S' H' (nx q)
  | ct ev' => exact fun τ O' S' H' q => h τ O' S' H' (nx q)
  | ex c p ev' => exact fun cls dd rs vs τ O' S' H' q xo => h cls dd rs vs τ O' S' H' (nx q) xo
  | no => exact h
theorem s_nil : PSs X [] (tS C mg P W skipS) := pss_weak pss_nil fun D σ H => by
  rintro ⟨ev, O, S, L, ft, gd, k⟩
  exact k σ O S H (.refl ft gd)
variable {st : Stmt} {sts : List Stmt} {s t : Ev → Fl}
theorem s_one (h : PS X st (tS C mg P W s)) : PSs X [st] (tS C mg P W s) := pss_one h
theorem s_cons (h : PS X st (tS C mg P W s)) (h2 : PSs X sts (tS C mg P W t)) : PSs X (st :: sts) (tS C mg P W (seqS s t)) := pss_weak (pss_cons h h2) fun D σ H => by
  rintro ⟨ev, O, S, L, ft, gd, k⟩
  refine ⟨ev, O, S, L, ft, gd, ?_⟩
  unfold seqS at k
  split at k
  · rename_i ev1 he
    rw [he]
    intro τ O1 S1 H1 p
    exact ⟨ev1, O1, S1, L, p.fit, p.good, aftS_next p k⟩
  · rename_i hx
    cases hs : s ev with
    | nx ev' => exact absurd hs (hx _)
    | rt r ev' => rw [hs] at k; exact k
    | bk ev' => rw [hs] at k; exact k
    | ct ev' => rw [hs] at k; exact k
    | ex c p ev' => rw [hs] at k; exact k
    | no => rw [hs] at k; exact k
theorem s_pass : PS X (.Pass pos) (tS C mg P W skipS) := ps_weak ps_pass fun D σ H => by
  rintro ⟨ev, O, S, L, ft, gd, k⟩
  exact k σ O S H (.refl ft gd)
theorem s_break : PS X (.Break pos) (tS C mg P W breakS) := ps_weak ps_break fun D σ H => by
  rintro ⟨ev, O, S, L, ft, gd, k⟩
  exact k σ O S H (.refl ft gd)
theorem s_continue : PS X (.Continue pos) (tS C mg P W contS) := ps_weak ps_continue fun D σ H => by
  rintro ⟨ev, O, S, L, ft, gd, k⟩
  exact k σ O S H (.refl ft gd)
theorem s_doc {x j pos'} : PS X (.Expr (.Constant (.str x) j pos) pos') (tS C mg P W skipS) := ps_weak ps_doc fun D σ H => by
  rintro ⟨ev, O, S, L, ft, gd, k⟩
  exact k σ O S H (.refl ft gd)
theorem Pst.drop (p : Pst C L P σ ev O S H rs ev1 vs τ O1 S1 H1) : ∃ O', Pst C L P σ ev O S H [] ev1 [] τ O' S1 H1 := by
  obtain ⟨O', g, le⟩ := p.good.drop
  exact ⟨O', p.fit, p.lk, rfl, by simp, g, p.go.less le⟩
variable {f : Ev → Rs MD}
theorem s_expr (he : PE X e (tE C mg W f)) (hs : swapsWith e none pos.line X.env = pure false := by rfl) : PS X (.Expr e pos) (tS C mg P W (exprS f)) := ps_weak (ps_expr he hs) fun D σ H => by
  rintro ⟨ev, O, S, L, ft, gd, k⟩
  exact ⟨ev, O, S, L, ft, gd, aftS_bind k fun r ev1 k1 v H' O' S' p => by
    obtain ⟨O2, q⟩ := p.drop
    exact k1 σ O2 S' H' q.all⟩
theorem s_ret (he : PE X e (tE C mg W f)) : PS X (.Return (some e) pos) (tS C mg P W (retS f)) := ps_weak (ps_ret he) fun D σ H => by
  rintro ⟨ev, O, S, L, ft, gd, k⟩
  exact ⟨ev, O, S, L, ft, gd, aftS_bind k fun r ev1 k1 v H' O' S' p => k1 v σ O' S' H' p.all⟩
theorem s_retN : PS X (.Return none pos) (tS C mg P W retN) := ps_weak ps_retN fun D σ H => by
  rintro ⟨ev, O, S, L, ft, gd, k⟩
  obtain ⟨O', q⟩ := (Pst.refl (P := P) ft gd).flat (d := .non) (v := .non) (f := []) rfl ⟨rfl, rfl⟩
  exact k .non σ O' S H q
/-- a slot is stored -/
theorem Pst.store {i : Nat} {r : MD} {v : V} (p : Pst C L P σ ev O S H [r] ev1 [v] τ O1 S1 H1) (hi : i < ev1.length) (hP : ¬ P i) : ∃ O', Pst C L P σ ev O S H [] (ev1.set i (some r)) [] (τ.set i (some v)) O' S1 H1 := by
  obtain ⟨pp, ff⟩ := fit_set (md := r) (v := v) p.fit hi
  obtain ⟨q, pq, f0⟩ := ents_none (i := i) p.fit
  have g : Good C H1 O1 S1 L (q ++ ([(v, r)] ++ ents (ev1.set i none) τ)) := p.good.perm (by
    show ([(v, r)] ++ ents ev1 τ).Perm _
    refine (pq.append_left _).trans ?_
    rw [← List.append_assoc, ← List.append_assoc]
    exact List.perm_append_comm.append_right _)
  obtain ⟨O2, g2, le⟩ := Good.drop g
  exact ⟨O2, ff, p.lk.trans (.set hP), rfl, by simp, g2.perm pp.symm, p.go.less le⟩
theorem s_set {i : Nat} {x : Str} {p' : Pos} (hP : ¬ P i) (hN : X.N.Nodup) (hi : X.N[i]? = some x) (hx : Loc X.env.scope x) (he : PE X e (tE C mg W f)) (hs : swapsWith e (some (.Name x p')) pos.line X.env = pure false := by rfl)
    (hf : X.fn x = true ∨ X.env.scope.names.lookup x = some .local := by first | exact .inl rfl | exact .inr rfl | assumption) : PS X (.Assign [.Name x p'] e pos) (tS C mg P W (setS i f)) := ps_weak (ps_set hN hi hx he hs hf) fun D σ H => by
  rintro ⟨ev, O, S, L, ft, gd, k⟩
  exact ⟨ev, O, S, L, ft, gd, aftS_bind k fun r ev1 k1 v H' O' S' p => by
    split at k1
    · rename_i hl
      obtain ⟨O2, q⟩ := p.all.store hl hP
      exact k1 _ O2 S' H' q
    · exact k1.elim⟩
/-- a slot for what is lent -/
theorem pst_lend {i j : Nat} {d d0 : T6.D} {v : V} {fp : List Addr} (ft : Fit ev σ) (gd : Good C H O S L (ents ev σ)) (hi : i < ev.length) (hP : ¬ P i) (r : Rep C H d v fp) (h : ∀ a ∈ fp, L a ∨ S a) : ∃ O', Pst C L P σ ev O S H [] (ev.set i (some (.lk, d))) [] (σ.set i (some v)) O' S H := by
  obtain ⟨pp, ff⟩ := fit_set (md := (Md.lk, d)) (v := v) ft hi
  obtain ⟨q, pq, f0⟩ := ents_none (i := i) ft
  obtain ⟨O2, g2, le⟩ := Good.drop (gd.perm pq)
  exact ⟨O2, ff, .set hP, rfl, by simp, (g2.lend r h).perm pp.symm, Go.refl.less le⟩
theorem s_setV {i : Nat} {x : Str} {p' : Pos} {f : Ev → Option Pv} (hP : ¬ P i) (hN : X.N.Nodup) (hi : X.N[i]? = some x) (hx : Loc X.env.scope x) (he : PE X e (tP C f)) (hs : swapsWith e (some (.Name x p')) pos.line X.env = pure false := by rfl)
    (hf : X.fn x = true ∨ X.env.scope.names.lookup x = some .local := by first | exact .inl rfl | exact .inr rfl | assumption) : PS X (.Assign [.Name x p'] e pos) (tS C mg P W (setV i f)) := ps_weak (ps_set hN hi hx he hs hf) fun D σ H => by
  rintro ⟨ev, O, S, L, ft, gd, k⟩
  have capW : AftS C mg P σ ev O S L H W D (setS i (capM f) ev) → ∃ p, f ev = some p ∧ ∀ v, PvOk C H S L ev σ p v → D.nx (σ.set i (some v)) H := fun k => by
    cases hp : f ev with
    | none =>
      have : capM f ev = .no := by unfold capM; rw [hp]
      unfold setS at k
      rw [this] at k; exact k.elim
    | some p =>
      refine ⟨p, rfl, fun v hv => ?_⟩
      unfold setS at k
      cases hc : capM f ev with
      | ok r ev1 =>
        rw [hc] at k
        obtain ⟨O', S', q⟩ := pst_cap ft gd hp hv hc
        have k : AftS C mg P σ ev O S L H W D (if i < ev1.length then .nx (ev1.set i (some r)) else .no) := k
        split at k
        · rename_i hl
          obtain ⟨O2, q2⟩ := (q.all (P := P)).store hl hP
          exact k _ O2 S' H q2
        · exact k.elim
      | ex c p ev1 => exact absurd hc cap_noex
      | no => rw [hc] at k; exact k.elim
  unfold setV at k
  split at k
  · rename_i j t d hp
    split at k
    · rename_i fl
      split at k
      · rename_i hl
        refine ⟨ev, O, S, L, ft, gd, _, hp, fun v hv => ?_⟩
        obtain ⟨fp, r⟩ := pv_rep hv
        obtain ⟨O2, q⟩ := (Pst.refl (P := P) ft gd).flat fl r
        obtain ⟨O3, q3⟩ := q.store hl hP
        exact k _ O3 S H q3
      · exact k.elim
    · split at k
      · rename_i d0 hj
        split at k
        · rename_i hl
          refine ⟨ev, O, S, L, ft, gd, _, hp, fun v hv => ?_⟩
          obtain ⟨v0, m, d1, e0, e1, et, hr, h⟩ := hv
          rw [hj] at e1
          cases e1
          obtain ⟨fp, r, s⟩ := h
          obtain ⟨O3, q3⟩ := pst_lend (P := P) (j := j) (d0 := d0) ft gd hl hP r s
          exact k _ O3 S H q3
        · exact k.elim
      · obtain ⟨p, h1, h2⟩ := capW k
        exact ⟨ev, O, S, L, ft, gd, p, h1, h2⟩
  · obtain ⟨p, h1, h2⟩ := capW k
    exact ⟨ev, O, S, L, ft, gd, p, h1, h2⟩
theorem s_ifP {c : Ev → Option Bool} {ts us : List Stmt} (hc : PT X e (tB1 C c)) (ha : PSs X ts (tS C mg P W s)) (hb : PSs X us (tS C mg P W t)) : PS X (.If e ts us pos) (tS C mg P W (ifP c s t)) := ps_weak (ps_if hc ha hb) fun D σ H => by
  rintro ⟨ev, O, S, L, ft, gd, k⟩
  unfold ifP at k
  split at k
  · rename_i h; exact ⟨ev, O, S, L, ft, gd, true, h, iteT ⟨ev, O, S, L, ft, gd, k⟩⟩
  · rename_i h; exact ⟨ev, O, S, L, ft, gd, false, h, iteF ⟨ev, O, S, L, ft, gd, k⟩⟩
  · exact k.elim
theorem s_ifS {c : Ev → Rs Bool} {ts us : List Stmt} (hc : PT X e (tBM C mg W c)) (ha : PSs X ts (tS C mg P W s)) (hb : PSs X us (tS C mg P W t)) : PS X (.If e ts us pos) (tS C mg P W (ifS c s t)) := ps_weak (ps_if hc ha hb) fun D σ H => by
  rintro ⟨ev, O, S, L, ft, gd, k⟩
  refine ⟨ev, O, S, L, ft, gd, aftS_bind k fun b ev1 k1 H' O' S' p => ?_⟩
  cases b with
  | true => exact iteT ⟨ev1, O', S', L, p.fit, p.good, aftS_next p.all k1⟩
  | false => exact iteF ⟨ev1, O', S', L, p.fit, p.good, aftS_next p.all k1⟩

/-! ### tests that may do things -/
theorem t_lift {c : Ev → Option Bool} (h : PT X e (tB1 C c)) : PT X e (tBM C mg W (liftB c)) := pt_weak h fun σ H Q => by
  rintro ⟨ev, O, S, L, ft, gd, k⟩
  unfold liftB at k
  split at k
  · rename_i b hb
    exact ⟨ev, O, S, L, ft, gd, b, hb, k H O S (.refl ft gd)⟩
  · exact k.elim
theorem bM_weak {t : TE} (w : ∀ σ H Q, tE C mg W f σ H Q → t σ H Q) : ∀ σ H Q, tBM C mg W (bM f) σ H Q → tTest t σ H Q := fun σ H Q => by
  rintro ⟨ev, O, S, L, ft, gd, k⟩
  refine w σ H _ ⟨ev, O, S, L, ft, gd, aft_bind k fun r ev1 k1 v H' O' S' p => ?_⟩
  obtain ⟨fp, rr⟩ := p.rep1
  split at k1
  · rename_i b hb
    rw [hb] at rr
    obtain ⟨O2, q⟩ := p.drop
    exact ⟨b, rp_bl rr, k1 H' O2 S' q⟩
  · exact k1.elim
theorem t_valM (h : PE X e (tE C mg W f)) (he : ∀ whole, isTrue e X.env whole = (do let v ← whole; standAt e.pos; holding [v] (truthy v)) := by intro _; rfl) : PT X e (tBM C mg W (bM f)) := pt_weak (pt_val h he) (bM_weak fun _ _ _ z => z)
theorem t_cmpM {op : CmpOp} {r : R2} {g : T6.D → T6.D → Option T6.D} {h : Ev → Rs MD} (ho : OpR X (compareOp op) r) (pr : Pr2 C r g) (ha : PE X a (tE C mg W f)) (hb : PE X b (tE C mg W h)) (hm : behindInMarks op b = false) : PT X (.Compare a [op] [b] pos) (tBM C mg W (bM (opM g f h))) :=
  pt_weak (pt_cmpR ho ha hb hm) (bM_weak (opM_weak pr))
variable {c d : Ev → Rs Bool}
theorem t_notM (ha : PT X a (tBM C mg W c)) : PT X (.UnaryOp .Not a pos) (tBM C mg W (notM c)) := pt_weak (pt_not ha) fun σ H Q => by
  rintro ⟨ev, O, S, L, ft, gd, k⟩
  exact ⟨ev, O, S, L, ft, gd, aft_bind k fun b ev1 k1 H' O' S' p => k1 H' O' S' p⟩
theorem aft_next0 {α : Type} {x : Rs α} {k k' : α → Ev → Prop} (p : Pst C L (fun _ => True) σ ev O S H [] ev1 [] σ O1 S1 H1) (h : Aft C mg σ ev O S L H W x k) (w : ∀ a ev2, k a ev2 → k' a ev2) : Aft C mg σ ev1 O1 S1 L H1 W x k' := by
  cases x with
  | ok a ev2 => exact w a ev2 h
  | ex c q ev2 => exact fun cls dd rs vs H' O' S' q xo => h cls dd rs vs H' O' S' ⟨q.fit, p.lk.trans q.lk, q.len, q.nl, q.good, p.go.trans q.go⟩ xo
  | no => exact h
theorem Pst.trans0 (p : Pst C L P σ ev O S H [] ev1 [] τ O1 S1 H1) {ρ : L2.St} (q : Pst C L P τ ev1 O1 S1 H1 rs ev2 vs ρ O2 S2 H2) : Pst C L P σ ev O S H rs ev2 vs ρ O2 S2 H2 := ⟨q.fit, p.lk.trans q.lk, q.len, q.nl, q.good, p.go.trans q.go⟩
theorem t_andM {rest : List Expr} (ha : PT X a (tBM C mg W c)) (hb : PW X (.BoolOp .And (b :: rest) pos) (tBM C mg W d)) : PW X (.BoolOp .And (a :: b :: rest) pos) (tBM C mg W (andM c d)) := pw_weak (pw_and ha hb) fun σ H Q => by
  rintro ⟨ev, O, S, L, ft, gd, k⟩
  refine ⟨ev, O, S, L, ft, gd, aft_bind k fun b ev1 k1 H' O' S' p => ?_⟩
  cases b with
  | true => exact iteT ⟨ev1, O', S', L, p.fit, p.good, aft_next0 p k1 fun b ev2 k2 H2 O2 S2 q => k2 H2 O2 S2 (p.trans0 q)⟩
  | false => exact iteF (k1 H' O' S' p)
theorem t_orM {rest : List Expr} (ha : PT X a (tBM C mg W c)) (hb : PW X (.BoolOp .Or (b :: rest) pos) (tBM C mg W d)) : PW X (.BoolOp .Or (a :: b :: rest) pos) (tBM C mg W (orM c d)) := pw_weak (pw_or ha hb) fun σ H Q => by
  rintro ⟨ev, O, S, L, ft, gd, k⟩
  refine ⟨ev, O, S, L, ft, gd, aft_bind k fun b ev1 k1 H' O' S' p => ?_⟩
  cases b with
  | true => exact iteT (k1 H' O' S' p)
  | false => exact iteF ⟨ev1, O', S', L, p.fit, p.good, aft_next0 p k1 fun b ev2 k2 H2 O2 S2 q => k2 H2 O2 S2 (p.trans0 q)⟩
theorem t_andM1 (ha : PT X a (tBM C mg W c)) : PW X (.BoolOp .And [a] pos) (tBM C mg W c) := pw_and1 ha
theorem t_orM1 (ha : PT X a (tBM C mg W c)) : PW X (.BoolOp .Or [a] pos) (tBM C mg W c) := pw_or1 ha
/-- as values -/
theorem r_notM (ha : PE X a (tE C mg W f)) : PE X (.UnaryOp .Not a pos) (tE C mg W (ofB (notM (bM f)))) := pe_weak (pe_not ha) fun σ H Q => by
  rintro ⟨ev, O, S, L, ft, gd, k⟩
  refine bM_weak (fun _ _ _ z => z) σ H (fun k H1 => Q (.bl (!k)) H1) ⟨ev, O, S, L, ft, gd, aft_bind (aft_bind k fun b ev1 k1 => k1) fun b ev1 k1 H' O' S' p => ?_⟩
  obtain ⟨O2, q⟩ := p.flat (d := .bl (!b)) (v := .bl (!b)) (f := []) rfl ⟨rfl, rfl⟩
  exact k1 _ H' O2 S' q
theorem r_andM {rest : List Expr} (ha : PE X a (tE C mg W f)) (hb : PE X (.BoolOp .And (b :: rest) pos) (tE C mg W (ofB d))) : PE X (.BoolOp .And (a :: b :: rest) pos) (tE C mg W (ofB (andM (bM f) d))) := pe_weak (pe_and ha hb) fun σ H Q => by
  rintro ⟨ev, O, S, L, ft, gd, k⟩
  refine bM_weak (fun _ _ _ z => z) σ H (fun k H1 => if k = true then _ else _) ⟨ev, O, S, L, ft, gd, aft_bind (aft_bind k fun b ev1 k1 => k1) fun b ev1 k1 H' O' S' p => ?_⟩
  cases b with
  | true =>
    refine iteT ⟨ev1, O', S', L, p.fit, p.good, ?_⟩
    have k2 : Aft C mg σ ev O S L H W (ofB d ev1) (fun r ev' => ∀ v H' O' S', Pst C L (fun _ => True) σ ev O S H [r] ev' [v] σ O' S' H' → Q v H') := by
      unfold ofB
      cases hd : d ev1 with
      | ok z ev2 => rw [if_pos rfl, hd] at k1; exact k1
      | ex c q ev2 => rw [if_pos rfl, hd] at k1; exact k1
      | no => rw [if_pos rfl, hd] at k1; exact k1
    exact aft_next0 p k2 fun b ev2 k3 v H2 O2 S2 q => k3 v H2 O2 S2 (p.trans0 q)
  | false =>
    obtain ⟨O2, q⟩ := p.flat (d := .bl false) (v := .bl false) (f := []) rfl ⟨rfl, rfl⟩
    exact iteF (k1 _ H' O2 S' q)
theorem r_orM {rest : List Expr} (ha : PE X a (tE C mg W f)) (hb : PE X (.BoolOp .Or (b :: rest) pos) (tE C mg W (ofB d))) : PE X (.BoolOp .Or (a :: b :: rest) pos) (tE C mg W (ofB (orM (bM f) d))) := pe_weak (pe_or ha hb) fun σ H Q => by
  rintro ⟨ev, O, S, L, ft, gd, k⟩
  refine bM_weak (fun _ _ _ z => z) σ H (fun k H1 => if k = true then _ else _) ⟨ev, O, S, L, ft, gd, aft_bind (aft_bind k fun b ev1 k1 => k1) fun b ev1 k1 H' O' S' p => ?_⟩
  cases b with
  | false =>
    refine iteF ⟨ev1, O', S', L, p.fit, p.good, ?_⟩
    have k2 : Aft C mg σ ev O S L H W (ofB d ev1) (fun r ev' => ∀ v H' O' S', Pst C L (fun _ => True) σ ev O S H [r] ev' [v] σ O' S' H' → Q v H') := by
      unfold ofB
      cases hd : d ev1 with
      | ok z ev2 => rw [if_neg (by simp), hd] at k1; exact k1
      | ex c q ev2 => rw [if_neg (by simp), hd] at k1; exact k1
      | no => rw [if_neg (by simp), hd] at k1; exact k1
    exact aft_next0 p k2 fun b ev2 k3 v H2 O2 S2 q => k3 v H2 O2 S2 (p.trans0 q)
  | true =>
    obtain ⟨O2, q⟩ := p.flat (d := .bl true) (v := .bl true) (f := []) rfl ⟨rfl, rfl⟩
    exact iteT (k1 _ H' O2 S' q)
theorem r_oneM {op} (ha : PE X a (tE C mg W f)) : PE X (.BoolOp op [a] pos) (tE C mg W (ofB (bM f))) := pe_weak (pe_one ha) fun σ H Q => by
  rintro ⟨ev, O, S, L, ft, gd, k⟩
  refine ⟨ev, O, S, L, ft, gd, aft_bind (aft_bind k fun b ev1 k1 => k1) fun r ev1 k1 v H' O' S' p => ?_⟩
  obtain ⟨fp, rr⟩ := p.rep1
  split at k1
  · rename_i b hb
    have k1 : ∀ v H' O' S', Pst C L (fun _ => True) σ ev O S H [(Md.dp, D.bl b)] ev1 [v] σ O' S' H' → Q v H' := k1
    rw [hb] at rr
    obtain ⟨O2, q⟩ := p.flat (d := .bl b) (f := fp) rfl rr
    exact k1 v H' O2 S' q
  · exact k1.elim
theorem r_ifM {c' : Expr} {h : Ev → Rs MD} (hc : PT X c' (tBM C mg W c)) (ha : PE X a (tE C mg W f)) (hb : PE X b (tE C mg W h)) : PE X (.IfExp c' a b pos) (tE C mg W (ifM c f h)) := pe_weak (pe_ifExp hc ha hb) fun σ H Q => by
  rintro ⟨ev, O, S, L, ft, gd, k⟩
  refine ⟨ev, O, S, L, ft, gd, aft_bind k fun b ev1 k1 H' O' S' p => ?_⟩
  cases b with
  | true => exact iteT ⟨ev1, O', S', L, p.fit, p.good, aft_next0 p k1 fun r ev2 k3 v H2 O2 S2 q => k3 v H2 O2 S2 (p.trans0 q)⟩
  | false => exact iteF ⟨ev1, O', S', L, p.fit, p.good, aft_next0 p k1 fun r ev2 k3 v H2 O2 S2 q => k3 v H2 O2 S2 (p.trans0 q)⟩
end
end T6

namespace T6
open PySem PySem.Spec PyProof.Rows L2
variable [Tbl]
def opVM (g : D → D → Option D) (f : Ev → Option Pv) (h : Ev → Rs MD) : Ev → Rs MD := fun ev => match vwD f ev with
  | some d => (h ev).bind fun b ev2 => match g d b.2 with
    | some z => .ok (.dp, z) ev2
    | none => .no
  | none => .no
def opMV (g : D → D → Option D) (f : Ev → Rs MD) (h : Ev → Option Pv) : Ev → Rs MD := fun ev => (f ev).bind fun a ev1 => match h ev1 with
  | some p => match g a.2 p.d with
    | some z => .ok (.dp, z) ev1
    | none => .no
  | none => .no
section
variable {K : PySem.W.Frag} {C : Cs} {mg : Str → Option Value} {X : Cx} {W : WX} {a b e : Expr} {es : List Expr} {H H' H1 H2 : Hp} {O O' O1 O2 S S' S1 S2 L : Ps} {P P' : Nat → Prop} {σ τ : L2.St} {ev ev1 ev2 : Ev} {pos : Pos} {rs rs1 rs2 : List MD} {vs vs1 vs2 : List V}
theorem vw_ok {f : Ev → Option Pv} {d : D} (h : vwD f ev = some d) : ∃ p, f ev = some p ∧ p.d = d ∧ ∀ v, PvOk C H S L ev σ p v → ∃ fp, Rep C H d v fp ∧ ∀ a ∈ fp, L a ∨ S a := by
  unfold vwD at h
  split at h
  · rename_i d' hf
    cases h
    exact ⟨_, hf, rfl, fun v ok => ⟨[], ok.2, by simp⟩⟩
  · rename_i i t d' hf
    split at h
    · rename_i fl
      cases h
      refine ⟨_, hf, rfl, fun v ok => ?_⟩
      obtain ⟨fp, r⟩ := pv_rep ok
      exact ⟨[], rep_flat0 fl r, by simp⟩
    · split at h
      · rename_i d0 he
        cases h
        refine ⟨_, hf, rfl, fun v ok => ?_⟩
        obtain ⟨v0, m, d1, e0, e1, et, hr, k⟩ := ok
        rw [he] at e1
        cases e1
        exact k
      · rename_i d0 he
        cases h
        refine ⟨_, hf, rfl, fun v ok => ?_⟩
        obtain ⟨v0, m, d1, e0, e1, et, hr, k⟩ := ok
        rw [he] at e1
        cases e1
        obtain ⟨fp, r, s⟩ := k
        exact ⟨fp, r, fun a ha => .inr (s a ha)⟩
      · cases h
  · cases h
theorem opVM_weak {r : R2} {g : D → D → Option D} {f : Ev → Option Pv} {h : Ev → Rs MD} (pr : Pr2 C r g) : ∀ σ H Q, tE C mg W (opVM g f h) σ H Q → tOp r (tP C f) (tE C mg W h) σ H Q := fun σ H Q => by
  rintro ⟨ev, O, S, L, ft, gd, k⟩
  unfold opVM at k
  split at k
  · rename_i d hd
    obtain ⟨p, hp, _, ok⟩ := vw_ok (C := C) (H := H) (S := S) (L := L) (σ := σ) hd
    refine ⟨ev, O, S, L, ft, gd, p, hp, fun x hx => ?_⟩
    obtain ⟨fp, rx, sx⟩ := ok x hx
    refine ⟨ev, O, S, L, ft, gd, aft_bind k fun b ev1 k1 y H2 O2 S2 q => ?_⟩
    obtain ⟨f2, r2⟩ := q.rep1
    obtain ⟨rx2, _⟩ := (q.go.kpt gd).1 _ _ _ rx sx
    split at k1
    · rename_i z hz
      exact pr H2 x y _ _ z fp f2 Q rx2 r2 hz fun v fl rv => by
        obtain ⟨O4, p4⟩ := q.flat fl rv
        exact k1 v H2 O4 S2 p4
    · exact k1.elim
  · exact k.elim
theorem opMV_weak {r : R2} {g : D → D → Option D} {f : Ev → Rs MD} {h : Ev → Option Pv} (pr : Pr2 C r g) : ∀ σ H Q, tE C mg W (opMV g f h) σ H Q → tOp r (tE C mg W f) (tP C h) σ H Q := fun σ H Q => by
  rintro ⟨ev, O, S, L, ft, gd, k⟩
  refine ⟨ev, O, S, L, ft, gd, aft_bind k fun a ev1 k1 x H1 O1 S1 p1 => ?_⟩
  obtain ⟨OE, g1, nx⟩ := p1.next
  split at k1
  · rename_i p hp
    split at k1
    · rename_i z hz
      refine ⟨ev1, OE, S1, L, p1.fit, g1, p, hp, fun y hy => ?_⟩
      obtain ⟨f1, r1⟩ := p1.rep1
      obtain ⟨f2, r2⟩ := pv_rep hy
      exact pr H1 x y _ _ z f1 f2 Q r1 r2 hz fun v fl rv => by
        obtain ⟨O4, p4⟩ := p1.flat fl rv
        exact k1 v H1 O4 S1 p4
    · exact k1.elim
  · exact k1.elim
section
variable {f : Ev → Option Pv} {h m : Ev → Rs MD}
theorem r_opVM {op : Operator} {r : R2} {g : D → D → Option D} (ho : OpR X (binaryOp op) r) (pr : Pr2 C r g) (ha : PE X a (tP C f)) (hb : PE X b (tE C mg W h)) : PE X (.BinOp a op b pos) (tE C mg W (opVM g f h)) := pe_weak (pe_op ho ha hb) (opVM_weak pr)
theorem r_opMV {op : Operator} {r : R2} {g : D → D → Option D} (ho : OpR X (binaryOp op) r) (pr : Pr2 C r g) (ha : PE X a (tE C mg W h)) (hb : PE X b (tP C f)) : PE X (.BinOp a op b pos) (tE C mg W (opMV g h f)) := pe_weak (pe_op ho ha hb) (opMV_weak pr)
theorem r_cmpVM {op : CmpOp} {r : R2} {g : D → D → Option D} (ho : OpR X (compareOp op) r) (pr : Pr2 C r g) (ha : PE X a (tP C f)) (hb : PE X b (tE C mg W h)) (hm : behindInMarks op b = false) : PE X (.Compare a [op] [b] pos) (tE C mg W (opVM g f h)) := pe_weak (pe_cmpR ho ha hb hm) (opVM_weak pr)
theorem r_cmpMV {op : CmpOp} {r : R2} {g : D → D → Option D} (ho : OpR X (compareOp op) r) (pr : Pr2 C r g) (ha : PE X a (tE C mg W h)) (hb : PE X b (tP C f)) (hm : behindInMarks op b = false) : PE X (.Compare a [op] [b] pos) (tE C mg W (opMV g h f)) := pe_weak (pe_cmpR ho ha hb hm) (opMV_weak pr)
theorem t_cmpVM {op : CmpOp} {r : R2} {g : D → D → Option D} (ho : OpR X (compareOp op) r) (pr : Pr2 C r g) (ha : PE X a (tP C f)) (hb : PE X b (tE C mg W h)) (hm : behindInMarks op b = false) : PT X (.Compare a [op] [b] pos) (tBM C mg W (bM (opVM g f h))) := pt_weak (pt_cmpR ho ha hb hm) (bM_weak (opVM_weak pr))
theorem t_cmpMV {op : CmpOp} {r : R2} {g : D → D → Option D} (ho : OpR X (compareOp op) r) (pr : Pr2 C r g) (ha : PE X a (tE C mg W h)) (hb : PE X b (tP C f)) (hm : behindInMarks op b = false) : PT X (.Compare a [op] [b] pos) (tBM C mg W (bM (opMV g h f))) := pt_weak (pt_cmpR ho ha hb hm) (bM_weak (opMV_weak pr))
end

/-! ### a slot lent while a piece runs -/
theorem lockW {α : Type} {i : Nat} {g : Ev → Rs α} {k : α → Ev → Prop} (ft : Fit ev σ) (gd : Good C H O S L (ents ev σ)) (h : Aft C mg σ ev O S L H W (lockS i g ev) k) :
    ∃ ev' OE L', Fit ev' σ ∧ Good C H OE S L' (ents ev' σ) ∧ ∃ R : Ev → Ev, (∀ rs ev2 vs O2 S2 H2, Pst C L' (fun _ => True) σ ev' OE S H rs ev2 vs σ O2 S2 H2 → (∃ a, g ev' = .ok a ev2) ∨ (∃ c p, g ev' = .ex c p ev2) → ∃ O', Pst C L (fun _ => True) σ ev O S H rs (R ev2) vs σ O' S2 H2) ∧
      Aft C mg σ ev' OE S L' H W (g ev') (fun a ev2 => g ev' = .ok a ev2 ∧ k a (R ev2)) := by
  have same : Aft C mg σ ev O S L H W (g ev) k → ∃ ev' OE L', Fit ev' σ ∧ Good C H OE S L' (ents ev' σ) ∧ ∃ R : Ev → Ev, (∀ rs ev2 vs O2 S2 H2, Pst C L' (fun _ => True) σ ev' OE S H rs ev2 vs σ O2 S2 H2 → (∃ a, g ev' = .ok a ev2) ∨ (∃ c p, g ev' = .ex c p ev2) → ∃ O', Pst C L (fun _ => True) σ ev O S H rs (R ev2) vs σ O' S2 H2) ∧
      Aft C mg σ ev' OE S L' H W (g ev') (fun a ev2 => g ev' = .ok a ev2 ∧ k a (R ev2)) := fun h => by
    refine ⟨ev, O, L, ft, gd, id, fun rs ev2 vs O2 S2 H2 p _ => ⟨O2, p⟩, ?_⟩
    cases hg : g ev with
    | ok a ev2 => rw [hg] at h; exact ⟨rfl, h⟩
    | ex c p ev2 => rw [hg] at h; exact h
    | no => rw [hg] at h; exact h
  unfold lockS at h
  split at h
  · exact same h
  · exact same h
  · rename_i m d0 hm1 hm2 he
    have hm : m ≠ .lk := fun z => by subst z; first | exact hm1 _ rfl | exact hm1 rfl | exact hm1 _
    have hs : m ≠ .sh := fun z => by subst z; first | exact hm2 _ rfl | exact hm2 rfl | exact hm2 _
    obtain ⟨OE, L', f1, g1, _, nx⟩ := lock_ok ft gd he hm hs
    have cv : ∀ rs ev2 vs O2 S2 H2, Pst C L' (fun _ => True) σ (ev.set i (some (.lk, d0))) OE S H rs ev2 vs σ O2 S2 H2 → (∃ d', ev2[i]? = some (some (.lk, d'))) → ∃ O', Pst C L (fun _ => True) σ ev O S H rs (ev2.set i (some (m, d0))) vs σ O' S2 H2 :=
      fun rs ev2 vs O2 S2 H2 p z => nx _ rs ev2 vs σ O2 S2 H2 trivial p z fun j hj => absurd trivial hj
    cases hg : g (ev.set i (some (.lk, d0))) with
    | no => rw [hg] at h; exact h.elim
    | ok a ev2 =>
      rw [hg] at h
      unfold unlockS at h
      dsimp only at h
      split at h
      · rename_i d' hl
        refine ⟨_, OE, L', f1, g1, fun x => x.set i (some (m, d0)), fun rs ev3 vs O2 S2 H2 p z => cv rs ev3 vs O2 S2 H2 p ?_, ?_⟩
        · rcases z with ⟨a', z⟩ | ⟨c, q, z⟩
          · rw [hg] at z; cases z; exact ⟨d', hl⟩
          · rw [hg] at z; cases z
        · rw [hg]; exact ⟨rfl, h⟩
      · exact h.elim
    | ex c q ev2 =>
      rw [hg] at h
      unfold unlockS at h
      dsimp only at h
      split at h
      · rename_i d' hl
        refine ⟨_, OE, L', f1, g1, fun x => x.set i (some (m, d0)), fun rs ev3 vs O2 S2 H2 p z => cv rs ev3 vs O2 S2 H2 p ?_, ?_⟩
        · rcases z with ⟨a', z⟩ | ⟨c, q, z⟩
          · rw [hg] at z; cases z
          · rw [hg] at z; cases z; exact ⟨d', hl⟩
        · rw [hg]
          intro cls dd rs vs H' O' S' p xo
          obtain ⟨O3, p3⟩ := cv rs ev2 vs O' S' H' p ⟨d', hl⟩
          exact h cls dd rs vs H' O3 S' p3 xo
      · exact h.elim
  · exact h.elim
theorem r_lock {i : Nat} {g : Ev → Rs MD} (h : PE X e (tE C mg W g)) : PE X e (tE C mg W (lockS i g)) := pe_weak h fun σ H Q => by
  rintro ⟨ev, O, S, L, ft, gd, k⟩
  obtain ⟨ev', OE, L', f1, g1, R, cv, af⟩ := lockW ft gd k
  refine ⟨ev', OE, S, L', f1, g1, ?_⟩
  cases hg : g ev' with
  | ok r ev2 =>
    rw [hg] at af
    intro v H' O' S' p
    obtain ⟨O3, p3⟩ := cv _ _ _ _ _ _ p (.inl ⟨r, hg⟩)
    exact af.2 v H' O3 S' p3
  | ex c q ev2 => rw [hg] at af; exact af
  | no => rw [hg] at af; exact af
theorem t_lock {i : Nat} {g : Ev → Rs Bool} (h : PT X e (tBM C mg W g)) : PT X e (tBM C mg W (lockS i g)) := pt_weak h fun σ H Q => by
  rintro ⟨ev, O, S, L, ft, gd, k⟩
  obtain ⟨ev', OE, L', f1, g1, R, cv, af⟩ := lockW ft gd k
  refine ⟨ev', OE, S, L', f1, g1, ?_⟩
  cases hg : g ev' with
  | ok r ev2 =>
    rw [hg] at af
    intro H' O' S' p
    obtain ⟨O3, p3⟩ := cv _ _ _ _ _ _ p (.inl ⟨r, hg⟩)
    exact af.2 H' O3 S' p3
  | ex c q ev2 => rw [hg] at af; exact af
  | no => rw [hg] at af; exact af

/-! ### the call of a def -/
section
variable {CX' : CXT} {k : Nat} {fa : Addr} {fd : FuncData} {ps : List Str} {x : Str} {p apos : Pos} {F : List MD → Rf} {A : Arp MD}
theorem call_weak : ∀ σ H Q, tE C mg W (A (callF F)) σ H Q → tCallS (spF C mg F) (WE W) (tAC C mg W A) σ H Q := fun σ H Q => by
  rintro ⟨ev, O, S, L, ft, gd, af⟩
  refine ⟨callF F, _, ev, O, S, H, L, [], [], ev, O, S, .refl ft gd, af, fun as vs tvs trs ev2 O2 S2 H2 pF _ ar af2 => ?_⟩
  unfold callF at af2
  split at af2
  · rename_i es' ev3 ht
    obtain ⟨f1, l1, g1, k1⟩ := take_ok (Y := []) ar ht pF.fit pF.good
    obtain ⟨OA, OE, gA, gE, m, d⟩ := Good.parts (es := vs.zip es') (fs := ents ev3 σ) g1
    refine ⟨es', OA, S2, L, l1, by rw [ents_map]; exact gA, ?_⟩
    have fin : ∀ rs xs fs H' O' S', Pst C L (fun _ => True) (vs.map some) (es'.map some) OA S2 H2 rs fs xs (vs.map some) O' S' H' → ∃ O3, Pst C L (fun _ => True) σ ev O S H rs (putA as fs ev3) xs σ O3 S' H' := by
      intro rs xs fs H' O' S' pc
      obtain ⟨G, g⟩ := gA.frame gE d pc.good pc.go
      obtain ⟨O3, fp, g3, le, k3⟩ := put_ok ar f1 pc.fit (Y := xs.zip rs) (by simpa [List.append_assoc] using G)
      refine ⟨O3, fp, (pF.lk.trans (k1 _)).trans (k3 _), pc.len, pc.nl, g3, ?_⟩
      refine pF.go.trans ⟨fun a o h n => g.keep a o h fun z => n ((m a).mpr z), g.code, g.live, fun a h => (g.newO a (le a h)).imp (m a).mpr id, g.monS, fun a h => (g.newS a h).imp id fun z => z.imp (m a).mpr id⟩
    cases hF : F es' with
    | ok r fs =>
      rw [hF] at af2
      intro v H' O' S' pc
      obtain ⟨O3, p3⟩ := fin _ _ _ _ _ _ pc
      exact af2 v H' O3 S' p3
    | ex c q fs =>
      rw [hF] at af2
      intro cls dd rs xs H' O' S' pc xo
      obtain ⟨O3, p3⟩ := fin _ _ _ _ _ _ pc
      exact af2 cls dd rs xs H' O3 S' p3 xo
    | no => rw [hF] at af2; exact af2.elim
  · exact af2.elim
theorem r_call (F' : FnOk X.prog X.w X.K X.mg X.base (L2.CX X.prog X.w) k fa fd ps (spF C mg F)) (hr : Room k X.A) (hg : Gl X x) (hm : X.mg x = some (.ref fa)) (hk : PySem.W.keepIn X.K (.ref fa) = true) (hb : Binds X.K fd ps []) (tk : Takes X W)
    (ha : PA X (e :: es) (tAC C mg W A)) (hdb : (x == ("__debug__" : Str)) = false := by decide) (he : starEach (e :: es) X.env = (false, eval e X.env) :: starEach es X.env := by rfl) (hpl : (backTo pos (starEach es X.env)).any (·.1) = false := by rfl) :
    PE X (.Call (.Name x p) (e :: es) [] pos) (tE C mg W (A (callF F))) := pe_weak (pe_callS F' hr hg hm hk hb (fun σ => passAt tk σ) ha hdb he hpl) call_weak
end
end

/-! ### a def by its body -/
section
variable {Pg : Program} {w : World} {K : PySem.W.Frag} {C : Cs} {mg : Str → Option Value} {base : Heap}
def keeps (ks : List Bool) : Nat → Prop := fun j => ks[j]? = some true
theorem fit_start : ∀ {es : List MD} {vs : List V} {n : Nat}, es.length = vs.length → Fit (es.map some ++ List.replicate n none) (vs.map some ++ List.replicate n none) ∧ ents (es.map some ++ List.replicate n none) (vs.map some ++ List.replicate n none) = vs.zip es
  | [], [], n, _ => by
    induction n with
    | zero => exact ⟨trivial, rfl⟩
    | succ n ih => exact ih
  | r :: es, v :: vs, n, h => by
    obtain ⟨a, b⟩ := fit_start (es := es) (vs := vs) (n := n) (by simpa using h)
    exact ⟨a, congrArg ((v, r) :: ·) b⟩
  | [], _ :: _, _, h => by simp at h
  | _ :: _, [], _, h => by simp at h
/-- the parameters' worth at the end -/
theorem fin_ok : ∀ {ks : List Bool} {vs : List V} {ev : Ev} {τ : L2.St}, ks.length = vs.length → (∀ j, keeps ks j → τ[j]? = (vs.map some)[j]?) → Fit ev τ → ks.length ≤ ev.length →
    Fit (finF ks ev) (vs.map some) ∧ ∃ q, (ents ev τ).Perm (q ++ ents (finF ks ev) (vs.map some))
  | [], [], ev, τ, _, _, ft, _ => ⟨trivial, ents ev τ, by simp [finF, ents]⟩
  | k :: ks, v :: vs, s :: ev, x :: τ, hl, hk, ft, hn => by
    have hk' : ∀ j, keeps ks j → τ[j]? = (vs.map some)[j]? := fun j h => by
      have := hk (j + 1) (by simpa [keeps] using h)
      simpa using this
    have ft' : Fit ev τ := by
      cases s <;> cases x <;> first | exact ft | exact ft.elim
    obtain ⟨f, q, pq⟩ := fin_ok (ks := ks) (vs := vs) (ev := ev) (τ := τ) (by simpa using hl) hk' ft' (by simpa using hn)
    have ef : finF (k :: ks) (s :: ev) = (if k = true then s else none) :: finF ks ev := by simp [finF]
    rw [ef]
    cases s with
    | none =>
      have : (if k = true then (none : Option MD) else none) = none := by split <;> rfl
      rw [this]
      exact ⟨f, q, pq⟩
    | some md =>
      cases x with
      | none => exact ft.elim
      | some w =>
        cases k with
        | false => exact ⟨f, (w, md) :: q, pq.cons _⟩
        | true =>
          have := hk 0 rfl
          simp only [List.getElem?_cons_zero, List.map_cons, Option.some.injEq] at this
          subst this
          exact ⟨f, q, (pq.cons _).trans List.perm_middle.symm⟩
  | k :: ks, v :: vs, [], [], _, _, _, hn => by simp at hn
  | k :: ks, v :: vs, s :: ev, [], _, _, ft, _ => by cases s <;> exact ft.elim
  | k :: ks, v :: vs, [], _ :: _, _, _, ft, _ => ft.elim
  | [], _ :: _, _, _, h, _, _, _ => by simp at h
  | _ :: _, [], _, _, h, _, _, _ => by simp at h
theorem fin_get {ks : List Bool} {ev : Ev} {j : Nat} {md : MD} (h : (finF ks ev)[j]? = some (some md)) : keeps ks j ∧ ev[j]? = some (some md) := by
  unfold finF at h
  rw [List.getElem?_zipWith] at h
  split at h
  · rename_i s k h1 h2
    simp only [Option.some.injEq] at h
    split at h
    · rename_i hk
      subst hk
      subst h
      rw [List.getElem?_take] at h1
      split at h1
      · exact ⟨h2, h1⟩
      · cases h1
    · cases h
  · cases h
theorem body_ok {m : Nat} {ks : List Bool} {s : Ev → Fl} {vs : List V} {H : Hp} {Q : VK} {E : XK} (hn : ks.length ≤ m) (h : spF C mg (bodyF m ks s) vs H Q E) :
    vs.length = ks.length ∧ tS C mg (keeps ks) (fun cls d _ H => E cls d H) s { nx := fun _ H' => Q .non H', rt := Q } (vs.map some ++ List.replicate (m - ks.length) none) H := by
  obtain ⟨es, O, S, L, hl, gd, h⟩ := h
  by_cases hk : es.length = ks.length
  case neg =>
    simp only [bodyF, if_neg hk] at h
  have hv : vs.length = ks.length := by omega
  refine ⟨hv, ?_⟩
  obtain ⟨f0, e0⟩ := fit_start (n := m - ks.length) hl
  rw [ents_map] at gd
  refine ⟨_, O, S, L, f0, by rw [e0]; exact gd, ?_⟩
  have fin : ∀ rs ev' xs τ O' S' H', ks.length ≤ ev'.length → Pst C L (keeps ks) (vs.map some ++ List.replicate (m - ks.length) none) (es.map some ++ List.replicate (m - ks.length) none) O S H rs ev' xs τ O' S' H' →
      ∃ O2, Pst C L (fun _ => True) (vs.map some) (es.map some) O S H rs (finF ks ev') xs (vs.map some) O2 S' H' := by
    intro rs ev' xs τ O' S' H' hlen p
    have le : ∀ j, keeps ks j → j < vs.length := fun j hj => by
      have := (List.getElem?_eq_some_iff.mp hj).1
      omega
    have hk' : ∀ j, keeps ks j → τ[j]? = (vs.map some)[j]? := fun j hj => by
      rw [(p.lk j hj).1, List.getElem?_append_left (by simpa using le j hj)]
    obtain ⟨ff, q, pq⟩ := fin_ok hv.symm hk' p.fit hlen
    have g : Good C H' O' S' L (q ++ (xs.zip rs ++ ents (finF ks ev') (vs.map some))) := p.good.perm (by
      refine (pq.append_left _).trans ?_
      rw [← List.append_assoc, ← List.append_assoc]
      exact List.perm_append_comm.append_right _)
    obtain ⟨O2, g2, le2⟩ := Good.drop g
    refine ⟨O2, ff, fun j _ => ⟨rfl, fun d z => ?_⟩, p.len, p.nl, g2, p.go.less le2⟩
    obtain ⟨z1, z2⟩ := fin_get z
    have := (p.lk j z1).2 d z2
    rwa [List.getElem?_append_left (by simpa [hl] using le j z1)] at this
  cases hs : s (es.map some ++ List.replicate (m - ks.length) none) with
  | nx ev' =>
    by_cases hlen : ks.length ≤ ev'.length
    · simp only [bodyF, if_pos hk, hs, if_pos hlen] at h
      intro τ O' S' H' p
      obtain ⟨O2, p2⟩ := p.flat (d := .non) (v := .non) (f := []) rfl ⟨rfl, rfl⟩
      obtain ⟨O3, p3⟩ := fin _ _ _ _ _ _ _ hlen p2
      exact h .non H' O3 S' p3
    · simp only [bodyF, if_pos hk, hs, if_neg hlen] at h
  | rt r ev' =>
    by_cases hlen : ks.length ≤ ev'.length
    · simp only [bodyF, if_pos hk, hs, if_pos hlen] at h
      intro v τ O' S' H' p
      obtain ⟨O3, p3⟩ := fin _ _ _ _ _ _ _ hlen p
      exact h v H' O3 S' p3
    · simp only [bodyF, if_pos hk, hs, if_neg hlen] at h
  | ex c q ev' =>
    by_cases hlen : ks.length ≤ ev'.length
    · simp only [bodyF, if_pos hk, hs, if_pos hlen] at h
      intro cls dd rs xs τ O' S' H' p xo
      obtain ⟨O3, p3⟩ := fin _ _ _ _ _ _ _ hlen p
      exact h cls dd rs xs H' O3 S' p3 xo
    · simp only [bodyF, if_pos hk, hs, if_neg hlen] at h
  | bk ev' => simp only [bodyF, if_pos hk, hs] at h
  | ct ev' => simp only [bodyF, if_pos hk, hs] at h
  | no => simp only [bodyF, if_pos hk, hs] at h
/-- THE RULE for a def: its body's piece -/
theorem fn_ok {x qual : Str} {st : Stmt} {f : Addr} {fd : FuncData} {N ps : List Str} {k : Nat} {ks : List Bool} {s : Ev → Fl} (F : Fun K x qual st f fd) (S : FnScope N ps (defScope st)) (hp : ps.length = ks.length)
    (hbody : ∀ (cdv : Value) (A : Around) (outer : List Env) (s1 : Shared) (H : Hp) (E : XK), Room k (A.deeper (envOfC qual (defScope st) s1.heap.objs.size f cdv)) →
      PSs (cxOf (L2.CX Pg w) Pg w K mg base N qual (defScope st) f cdv A outer s1 H E) (defBody st) (tS (KL K) mg (keeps ks) (fun cls d _ H => E cls d H) s)) :
    FnOk Pg w K mg base (L2.CX Pg w) (k + 1) f fd ps (spF (KL K) mg (bodyF N.length ks s)) := by
  have le : ks.length ≤ N.length := by
    rw [← hp, ← S.pre, List.length_take]
    omega
  refine F.okX S (fun vs H Q E h => ?_) fun cdv A outer s1 H vs Q E hr h => ?_
  · rw [hp]; exact (body_ok le h).1
  · obtain ⟨hv, h2⟩ := body_ok le h
    refine ⟨_, hbody cdv A outer s1 H E hr, ?_⟩
    have e : L2.start N vs = vs.map some ++ List.replicate (N.length - ks.length) none := by
      unfold L2.start
      rw [hv]
    rw [e]
    exact h2
/-- a promise of nothing -/
theorem fn_no {f : Addr} {fd : FuncData} {ps : List Str} {CX' : CXT} {k : Nat} : FnOk Pg w K mg base CX' k f fd ps (spF C mg fun _ => .no) :=
  ⟨fun vs H Q E h => by obtain ⟨es, O, S, L, hl, gd, h⟩ := h; exact h.elim, fun A outer s H args us vs Q E _ _ _ _ h => by obtain ⟨es, O, S, L, hl, gd, h⟩ := h; exact h.elim⟩
end
end T6

namespace T6
open PySem PySem.Spec PyProof.Rows L2
variable [Tbl]
def asgn : List Nat → List MD → Ev → Ev
  | i :: is, r :: rs, ev => asgn is rs (ev.set i (some r))
  | _, _, ev => ev
def forG (tgs : List Nat) (body : Ev → Fl) : List (List MD) → Ev → Fl
  | [], ev => .nx ev
  | x :: xs, ev => if x.length = tgs.length ∧ (∀ i ∈ tgs, i < ev.length) then match body (asgn tgs x ev) with
      | .nx ev1 => forG tgs body xs ev1
      | .ct ev1 => forG tgs body xs ev1
      | .bk ev1 => .nx ev1
      | o => o
    else .no
def forS (src : Ev → Rs (List (List MD))) (tgs : List Nat) (body : Ev → Fl) : Ev → Fl := fun ev => bndS (src ev) fun items ev1 => forG tgs body items ev1
section
variable (C : Cs)
/-- a thing that may be named: flat, lent or shared -/
def Lt (H : Hp) (S L : Ps) (v : V) (r : MD) : Prop := ∃ fp, Rep C H r.2 v fp ∧ ((flat r.2 = true ∧ r.1 = .dp) ∨ (r.1 = .lk ∧ ∀ a ∈ fp, L a ∨ S a) ∨ (r.1 = .sh ∧ ∀ a ∈ fp, S a))
/-- where a step may have led: what is shared or lent is as it was -/
structure Rch (L : Ps) (H : Hp) (S : Ps) (H' : Hp) (S' : Ps) : Prop where
  keep : ∀ a u, L a ∨ S a → (∀ ps, u ≠ .tbl ps) → H a = some u → H' a = some u
  tup : ∀ a xs, H a = some (.tup xs) → H' a = some (.tup xs)
  frz : ∀ a o u, H a = some (.frz o u) → H' a = some (.frz o u)
  oth : ∀ a u, H a = some u → Oth u → H' a = some u
  mon : ∀ a, S a → S' a
def ItemOk (K : PySem.W.Frag) (H : Hp) (S L : Ps) (nm : Bool) (x : V) (rs : List MD) : Prop := match nm with
  | true => ∃ r, rs = [r] ∧ Lt C H S L x r
  | false => ∃ a xs, x = .ref a ∧ SqT K H a xs ∧ xs.length = rs.length ∧ ∀ (j : Nat) (y : V) (r : MD), xs[j]? = some y → rs[j]? = some r → Lt C H S L y r
structure SrcOk (K : PySem.W.Frag) (nm : Bool) (L : Ps) (H : Hp) (S : Ps) (J : It) (items : List (List MD)) : Prop where
  go : ∀ i H' S', i < items.length → Rch L H S H' S' → J.go i H'
  stop : ∀ H' S', Rch L H S H' S' → J.stop items.length H'
  yld : ∀ (i : Nat) rs x H' S' H'', items[i]? = some rs → Rch L H S H' S' → J.yld i H' x H'' → (H'' = H' ∨ ∃ T u, H' T = none ∧ H'' = upd H' T u) ∧ ItemOk C K H'' S' L nm x rs
def tI (K : PySem.W.Frag) (mg : Str → Option Value) (W : WX) (nm : Bool) (src : Ev → Rs (List (List MD))) : TI := fun σ H R => ∃ ev O S L, Fit ev σ ∧ Good C H O S L (ents ev σ) ∧
  Aft C mg σ ev O S L H W (src ev) fun items ev1 => ∀ J H1 O1 S1, Pst C L (fun _ => True) σ ev O S H [] ev1 [] σ O1 S1 H1 → SrcOk C K nm L H1 S1 J items → R J H1
end
section
variable {K : PySem.W.Frag} {C : Cs} {mg : Str → Option Value} {X : Cx} {W : WX} {a b e : Expr} {es : List Expr} {H H' H1 H2 : Hp} {O O' O1 O2 S S' S1 S2 L : Ps} {P P' : Nat → Prop} {σ τ : L2.St} {ev ev1 ev2 : Ev} {pos : Pos} {rs rs1 rs2 : List MD} {vs vs1 vs2 : List V}
theorem Rch.refl : Rch L H S H S := ⟨fun _ _ _ _ h => h, fun _ _ h => h, fun _ _ _ h => h, fun _ _ h _ => h, fun _ h => h⟩
theorem Go.rch {es : List En} (g : Go O S H O' S' H') (gd : Good C H O S L es) : Rch L H S H' S' :=
  ⟨fun a u h n e => (g.keep a u e fun z => h.elim (gd.os a z).2 (gd.os a z).1).eq n, fun a xs e => (g.keep a _ e fun z => (gd.trk a z).notup e).eq fun ps z => (nomatch z), fun a o u e => (g.keep a _ e fun z => (gd.trk a z).nofrz e).eq fun ps z => (nomatch z), fun a u e o => (g.keep a _ e fun z => (gd.trk a z).nooth e o).eq fun ps z => (by rcases o with ⟨φ, q⟩ | ⟨fs, q⟩ <;> (rw [z] at q; cases q)), g.monS⟩
theorem Rch.trans (h : Rch L H S H1 S1) (k : Rch L H1 S1 H2 S2) : Rch L H S H2 S2 :=
  ⟨fun a u z n e => k.keep a u (z.imp id (h.mon a)) n (h.keep a u z n e), fun a xs e => k.tup a xs (h.tup a xs e), fun a o u e => k.frz a o u (h.frz a o u e), fun a u e o => k.oth a u (h.oth a u e o) o, fun a z => k.mon a (h.mon a z)⟩
theorem Rch.kp {fp : List Addr} (h : Rch L H S H1 S1) (s : ∀ a ∈ fp, L a ∨ S a) (lv : ∀ a ∈ fp, Lv H a) : Kp fp H H1 := ⟨fun a ha => by
  cases q : H a with
  | none => exact absurd q (lv a ha).1
  | some u => exact h.keep a u (s a ha) (fun ps z => (lv a ha).2 ps (by rw [q, z])) q, h.tup, h.frz, h.oth⟩
theorem Rch.rep {d : D} {v : V} {fp : List Addr} (h : Rch L H S H1 S1) (s : ∀ a ∈ fp, L a ∨ S a) (r : Rep C H d v fp) : Rep C H1 d v fp := r.kp (h.kp s (rep_lv r))
theorem Rch.lt {v : V} {r : MD} (h : Rch L H S H1 S1) (l : Lt C H S L v r) : Lt C H1 S1 L v r := by
  obtain ⟨fp, rr, z⟩ := l
  rcases z with ⟨fl, e⟩ | ⟨e, s⟩ | ⟨e, s⟩
  · have := rep_flat0 fl rr
    exact ⟨[], h.rep (by simp) this, .inl ⟨fl, e⟩⟩
  · exact ⟨fp, h.rep s rr, .inr (.inl ⟨e, fun a ha => (s a ha).imp id (h.mon a)⟩)⟩
  · exact ⟨fp, h.rep (fun a ha => .inr (s a ha)) rr, .inr (.inr ⟨e, fun a ha => h.mon a (s a ha)⟩)⟩
theorem Rch.laid {p : Addr} {o : HO} (hp : H p = none) : Rch L H S (upd H p o) S :=
  ⟨fun a u _ _ e => by rw [upd_ne (ne_of_none e hp)]; exact e, fun a xs e => by rw [upd_ne (ne_of_none e hp)]; exact e, fun a ob u e => by rw [upd_ne (ne_of_none e hp)]; exact e, fun a u e _ => by rw [upd_ne (ne_of_none e hp)]; exact e, fun _ h => h⟩
theorem Good.addLt {es : List En} {v : V} {r : MD} (g : Good C H O S L es) (l : Lt C H S L v r) : Good C H O S L ((v, r) :: es) := by
  obtain ⟨fp, rr, z⟩ := l
  obtain ⟨m, d⟩ := r
  rcases z with ⟨fl, e⟩ | ⟨e, s⟩ | ⟨e, s⟩
  · have e : m = .dp := e
    subst e
    exact g.flat fl rr
  · have e : m = .lk := e
    subst e
    exact g.lend rr s
  · have e : m = .sh := e
    subst e
    exact g.dup0 rr s
/-- a slot is stored -/
theorem store1 {i : Nat} {r : MD} {v : V} (ft : Fit ev τ) (gd : Good C H O S L (ents ev τ)) (l : Lt C H S L v r) (hi : i < ev.length) : ∃ O', Fit (ev.set i (some r)) (τ.set i (some v)) ∧ Good C H O' S L (ents (ev.set i (some r)) (τ.set i (some v))) ∧ ∀ a, O' a → O a := by
  obtain ⟨pp, ff⟩ := fit_set (md := r) (v := v) ft hi
  obtain ⟨q, pq, f0⟩ := ents_none (i := i) ft
  obtain ⟨O2, g2, le⟩ := Good.drop (gd.perm pq)
  exact ⟨O2, ff, (g2.addLt l).perm pp.symm, le⟩
/-- what a target does with an item -/
def TgOk (C : Cs) (K : PySem.W.Frag) (nm : Bool) (P : Nat → Prop) (tgs : List Nat) (g : TG) : Prop :=
  ∀ (x : V) (rs : List MD) (τ : L2.St) (ev : Ev) (O S L : Ps) (H : Hp) (k : L2.St → Hp → Prop), Fit ev τ → Good C H O S L (ents ev τ) → ItemOk C K H S L nm x rs → rs.length = tgs.length → (∀ i ∈ tgs, i < ev.length) →
    (∀ τ' O', Pst C L P τ ev O S H [] (asgn tgs rs ev) [] τ' O' S H → k τ' H) → g x τ H k
theorem tg_name {i : Nat} (hP : ¬ P i) : TgOk C K true P [i] (gName i) := by
  intro x rs τ ev O S L H k ft gd it hl hi q
  obtain ⟨r, rfl, l⟩ := it
  obtain ⟨O', f1, g1, le⟩ := store1 ft gd l (hi i (by simp))
  exact q _ O' ⟨f1, .set hP, rfl, by simp, g1, Go.refl.less le⟩
theorem asgn_len : ∀ {is : List Nat} {rs : List MD} {ev : Ev}, (asgn is rs ev).length = ev.length
  | [], _, _ => by simp [asgn]
  | _ :: _, [], _ => by simp [asgn]
  | i :: is, r :: rs, ev => by
    simp only [asgn]
    rw [asgn_len]
    simp
/-- names one behind the other -/
def TgsOk (C : Cs) (P : Nat → Prop) (tgs : List Nat) (g : TGs) : Prop :=
  ∀ (xs : List V) (rs : List MD) (τ : L2.St) (ev : Ev) (O S L : Ps) (H : Hp) (k : L2.St → Hp → Prop), Fit ev τ → Good C H O S L (ents ev τ) → xs.length = rs.length → (∀ (j : Nat) (y : V) (r : MD), xs[j]? = some y → rs[j]? = some r → Lt C H S L y r) → rs.length = tgs.length → (∀ i ∈ tgs, i < ev.length) →
    (∀ τ' O', Pst C L P τ ev O S H [] (asgn tgs rs ev) [] τ' O' S H → k τ' H) → g xs τ H k
theorem tgs_nil : TgsOk C P [] gNil := by
  intro xs rs τ ev O S L H k ft gd hx it hl hi q
  have e1 : rs = [] := List.eq_nil_of_length_eq_zero (by simpa using hl)
  subst e1
  have e2 : xs = [] := List.eq_nil_of_length_eq_zero (by simpa using hx)
  subst e2
  exact ⟨rfl, q τ O (.refl ft gd)⟩
theorem tgs_cons {i : Nat} {is : List Nat} {g : TGs} (hP : ¬ P i) (h : TgsOk C P is g) : TgsOk C P (i :: is) (gCons (gName i) g) := by
  intro xs rs τ ev O S L H k ft gd hx it hl hi q
  cases rs with
  | nil => simp at hl
  | cons r rs =>
    cases xs with
    | nil => simp at hx
    | cons x xs =>
      refine ⟨x, xs, rfl, ?_⟩
      obtain ⟨O1, f1, g1, le⟩ := store1 ft gd (it 0 x r rfl rfl) (hi i (by simp))
      refine h xs rs _ _ O1 S L H k f1 g1 (by simpa using hx) (fun j y r' h1 h2 => it (j + 1) y r' (by simpa using h1) (by simpa using h2)) (by simpa using hl) (fun j hj => by simpa using hi j (List.mem_cons_of_mem _ hj)) fun τ' O' p => ?_
      refine q τ' O' ?_
      have p1 : Pst C L P τ ev O S H [] (ev.set i (some r)) [] (τ.set i (some x)) O1 S H := ⟨f1, .set hP, rfl, by simp, g1, Go.refl.less le⟩
      exact p1.trans0 p
theorem tg_tup {tgs : List Nat} {g : TGs} {n : Nat} (hn : tgs.length = n) (h : TgsOk C P tgs g) : TgOk C K false P tgs (gTup K n g) := by
  intro x rs τ ev O S L H k ft gd it hl hi q
  obtain ⟨a, xs, rfl, hs, hx, it⟩ := it
  exact ⟨a, xs, rfl, hs, by omega, h xs rs τ ev O S L H k ft gd hx it hl hi q⟩

/-! ### for -/
theorem forW {D : Ends} {nm : Bool} {tgs : List Nat} {g : TG} {tb : TS} {body : Ev → Fl} {J : It} {items : List (List MD)} (ft : Fit ev σ) (gd : Good C H O S L (ents ev σ)) (so : SrcOk C K nm L H S J items) (tg : TgOk C K nm P tgs g)
    (hb : ∀ D σ H, tS C mg P W body D σ H → tb D σ H) (af : AftS C mg P σ ev O S L H W D (forG tgs body items ev)) :
    ∃ Wd : Nat → Nat → L2.St → Hp → Prop, (∃ m, Wd 0 m σ H) ∧ ∀ i m σ H, Wd i m σ H →
      (J.stop i H ∧ D.nx σ H) ∨ (J.go i H ∧ ∃ N : L2.St → Hp → Prop, (∀ σ' H', N σ' H' → ∃ m', m' < m ∧ Wd (i + 1) m' σ' H') ∧ ∀ x H', J.yld i H x H' → g x σ H' fun σ2 H2 => tb { D with nx := N, ct := N, bk := D.nx } σ2 H2) := by
  let Pv : Nat → L2.St → Hp → Prop := fun i τ H' => ∃ ev' O' S', Pst C L P σ ev O S H [] ev' [] τ O' S' H' ∧ AftS C mg P σ ev O S L H W D (forG tgs body (items.drop i) ev')
  refine ⟨fun i m τ H' => m = items.length - i ∧ i ≤ items.length ∧ Pv i τ H', ⟨items.length, by simp, Nat.zero_le _, ev, O, S, .refl ft gd, by simpa using af⟩, ?_⟩
  rintro i m τ H1 ⟨rfl, hi, ev1, O1, S1, p, af1⟩
  have rc : Rch L H S H1 S1 := p.go.rch gd
  by_cases hlt : i < items.length
  · refine .inr ⟨so.go i H1 S1 hlt rc, Pv (i + 1), fun τ' H' pv => ⟨items.length - (i + 1), by omega, rfl, hlt, pv⟩, fun x H2 y => ?_⟩
    rw [List.drop_eq_getElem_cons hlt] at af1
    obtain ⟨hH, it⟩ := so.yld i items[i] x H1 S1 H2 (by simp [hlt]) rc y
    simp only [forG] at af1
    split at af1
    · rename_i hc
      -- the heap behind the item
      have p2 : Pst C L P σ ev O S H [] ev1 [] τ O1 S1 H2 := by
        rcases hH with rfl | ⟨T, u, hT, rfl⟩
        · exact p
        · exact ⟨p.fit, p.lk, rfl, by simp, p.good.laid hT, p.go.trans (Go.laid hT)⟩
      refine tg x items[i] τ ev1 O1 S1 L H2 _ p2.fit p2.good it hc.1 hc.2 fun τ' O3 p3 => hb _ _ _ ⟨_, O3, S1, L, p3.fit, p3.good, ?_⟩
      have p4 := p2.trans0 p3
      cases hbd : body (asgn tgs items[i] ev1) with
      | nx ev5 => rw [hbd] at af1; exact fun τ5 O5 S5 H5 q => ⟨ev5, O5, S5, p4.trans0 q, af1⟩
      | ct ev5 => rw [hbd] at af1; exact fun τ5 O5 S5 H5 q => ⟨ev5, O5, S5, p4.trans0 q, af1⟩
      | bk ev5 => rw [hbd] at af1; exact fun τ5 O5 S5 H5 q => af1 τ5 O5 S5 H5 (p4.trans0 q)
      | rt r ev5 => rw [hbd] at af1; exact fun v τ5 O5 S5 H5 q => af1 v τ5 O5 S5 H5 (p4.trans0 q)
      | ex c pl ev5 => rw [hbd] at af1; exact fun cls dd rs vs τ5 O5 S5 H5 q xo => af1 cls dd rs vs τ5 O5 S5 H5 (p4.trans0 q) xo
      | no => rw [hbd] at af1; exact af1
    · exact af1.elim
  · have e : i = items.length := by omega
    subst e
    refine .inl ⟨so.stop H1 S1 rc, ?_⟩
    rw [List.drop_length] at af1
    exact af1 τ O1 S1 H1 p
theorem s_for {tg iter : Expr} {bd : List Stmt} {nm : Bool} {src : Ev → Rs (List (List MD))} {tgs : List Nat} {g : TG} {body : Ev → Fl} (hp : PassesOwn (model X.prog X.w) X.A X.env X.xe) (hc : X.calm = true) (hi : PI X tg iter (tI C X.K mg W nm src)) (hg : PG X tg g) (tk : TgOk C X.K nm P tgs g)
    (hb : PSs X bd (tS C mg P W body)) (hs : ∀ x, foldedSetIterable iter X.env x = pure x := by intro _; rfl) : PS X (.For tg iter bd [] pos) (tS C mg P W (forS src tgs body)) := ps_weak (ps_for hp hc hi hg hb hs) fun D σ H => by
  rintro ⟨ev, O, S, L, ft, gd, k⟩
  refine ⟨ev, O, S, L, ft, gd, aftS_bind k fun items ev1 k1 J H1 O1 S1 p so => ?_⟩
  exact forW p.fit p.good so tk (fun _ _ _ z => z) (aftS_next p.all k1)
end
end T6

namespace T6
open PySem PySem.Spec PyProof.Rows L2
variable [Tbl]
def childM (m : Md) (x : D) : MD := if flat x = true then (.dp, x) else (m, x)
def splitA (m : Md) : List D → Option (List (List MD))
  | [] => some []
  | .tup ys :: ds => (splitA m ds).map (ys.map (childM m) :: ·)
  | _ :: _ => none
/-- what is looked at, with the right to its parts -/
def vwI (f : Ev → Option Pv) : Ev → Option (Md × D) := fun ev => match f ev with
  | some (.fl d) => some (.sh, d)
  | some (.vw i _ d) => if flat d = true then some (.sh, d) else match ev[i]? with
    | some (some (.lk, _)) => some (.lk, d)
    | some (some (.sh, _)) => some (.sh, d)
    | _ => none
  | none => none
def itsD (nm : Bool) (m : Md) : D → Option (List (List MD))
  | .lst ds => if nm = true then some (ds.map fun x => [childM m x]) else splitA m ds
  | .tup ds => if nm = true then some (ds.map fun x => [childM m x]) else splitA m ds
  | _ => none
def srcV (nm : Bool) (f : Ev → Option Pv) : Ev → Rs (List (List MD)) := fun ev => match vwI f ev with
  | some (m, d) => match itsD nm m d with
    | some is => .ok is ev
    | none => .no
  | none => .no
def srcM (nm : Bool) (f : Ev → Rs MD) : Ev → Rs (List (List MD)) := fun ev => (f ev).bind fun r ev1 => match itsD nm .sh r.2 with
  | some is => .ok is ev1
  | none => .no
def rngI (lo : Int) (n : Nat) : List (List MD) := (List.range n).map fun (k : Nat) => [(Md.dp, D.int (lo + (k : Int)))]
/-- kept shut, so that nobody counts to 2 ^ 62 -/
noncomputable def inLine (j : Int) : Bool := @decide (-(2 ^ 62) ≤ j ∧ j < 2 ^ 62) (Classical.propDecidable _)
theorem inLine_iff {j : Int} : inLine j = true ↔ -(2 ^ 62) ≤ j ∧ j < 2 ^ 62 := by unfold inLine; exact @decide_eq_true_iff _ (Classical.propDecidable _)
noncomputable def kRng1 : List Ag → Ev → Rs (List (List MD)) := fun as ev => match as with
  | [.vl _ (.int j)] => if inLine j = true then .ok (rngI 0 j.toNat) ev else .no
  | _ => .no
noncomputable def kRng2 : List Ag → Ev → Rs (List (List MD)) := fun as ev => match as with
  | [.vl _ (.int i), .vl _ (.int j)] => if inLine i = true ∧ inLine j = true then .ok (rngI i (j - i).toNat) ev else .no
  | _ => .no
def enumI (m : Md) : Nat → List D → List (List MD)
  | _, [] => []
  | k, d :: ds => [(Md.dp, D.int (k : Int)), childM m d] :: enumI m (k + 1) ds
def kEnum : List Ag → Ev → Rs (List (List MD)) := fun as ev => match as with
  | [.vl s (.lst ds)] => .ok (enumI (if s = true then .sh else .lk) 0 ds) ev
  | _ => .no
def zipI (m n : Md) : List D → List D → List (List MD)
  | d :: ds, e :: es => [childM m d, childM n e] :: zipI m n ds es
  | _, _ => []
def kZip : List Ag → Ev → Rs (List (List MD)) := fun as ev => match as with
  | [.vl s (.lst ds), .vl t (.lst es)] => .ok (zipI (if s = true then .sh else .lk) (if t = true then .sh else .lk) ds es) ev
  | _ => .no

section
variable {K : PySem.W.Frag} {C : Cs} {mg : Str → Option Value} {X : Cx} {W : WX} {a b e : Expr} {es : List Expr} {H H' H1 H2 : Hp} {O O' O1 O2 S S' S1 S2 L : Ps} {P P' : Nat → Prop} {σ τ : L2.St} {ev ev1 ev2 : Ev} {pos : Pos} {rs rs1 rs2 : List MD} {vs vs1 vs2 : List V}
theorem vwI_ok {f : Ev → Option Pv} {m : Md} {d : D} (h : vwI f ev = some (m, d)) : ∃ p, f ev = some p ∧ p.d = d ∧ (m = .lk ∨ m = .sh) ∧ ∀ v, PvOk C H S L ev σ p v → ∃ fp, Rep C H d v fp ∧ (∀ a ∈ fp, L a ∨ S a) ∧ (m = .sh → ∀ a ∈ fp, S a) := by
  unfold vwI at h
  split at h
  · rename_i d' hf
    cases h
    exact ⟨_, hf, rfl, .inr rfl, fun v ok => ⟨[], ok.2, by simp, by simp⟩⟩
  · rename_i i t d' hf
    split at h
    · rename_i fl
      cases h
      refine ⟨_, hf, rfl, .inr rfl, fun v ok => ?_⟩
      obtain ⟨fp, r⟩ := pv_rep ok
      exact ⟨[], rep_flat0 fl r, by simp, by simp⟩
    · split at h
      · rename_i d0 he
        cases h
        refine ⟨_, hf, rfl, .inl rfl, fun v ok => ?_⟩
        obtain ⟨v0, m, d1, e0, e1, et, hr, k⟩ := ok
        rw [he] at e1
        cases e1
        obtain ⟨fp, r, s⟩ := k
        exact ⟨fp, r, s, fun z => nomatch z⟩
      · rename_i d0 he
        cases h
        refine ⟨_, hf, rfl, .inr rfl, fun v ok => ?_⟩
        obtain ⟨v0, m, d1, e0, e1, et, hr, k⟩ := ok
        rw [he] at e1
        cases e1
        obtain ⟨fp, r, s⟩ := k
        exact ⟨fp, r, fun a ha => .inr (s a ha), fun _ => s⟩
      · cases h
  · cases h
theorem child_lt {m : Md} {d : D} {v : V} {fp : List Addr} (hm : m = .lk ∨ m = .sh) (r : Rep C H d v fp) (s : ∀ a ∈ fp, L a ∨ S a) (s2 : m = .sh → ∀ a ∈ fp, S a) : Lt C H S L v (childM m d) := by
  unfold childM
  split
  · rename_i fl
    exact ⟨fp, r, .inl ⟨fl, rfl⟩⟩
  · rcases hm with rfl | rfl
    · exact ⟨fp, r, .inr (.inl ⟨rfl, s⟩)⟩
    · exact ⟨fp, r, .inr (.inr ⟨rfl, s2 rfl⟩)⟩
theorem splitA_get {m : Md} : ∀ {ds : List D} {is : List (List MD)}, splitA m ds = some is → is.length = ds.length ∧ ∀ (i : Nat) rs, is[i]? = some rs → ∃ ys, ds[i]? = some (.tup ys) ∧ rs = ys.map (childM m)
  | [], is, h => by cases h; exact ⟨rfl, fun i rs e => by simp at e⟩
  | d :: ds, is, h => by
    unfold splitA at h
    split at h
    · rename_i heq; cases heq
    · rename_i ys ds' heq
      cases heq
      obtain ⟨js, e, rfl⟩ := Option.map_eq_some_iff.mp h
      obtain ⟨l, g⟩ := splitA_get e
      refine ⟨by simp [l], fun i rs e => ?_⟩
      cases i with
      | zero =>
        simp only [List.getElem?_cons_zero, Option.some.injEq] at e
        exact ⟨ys, rfl, e.symm⟩
      | succ i => simpa using g i rs (by simpa using e)
    · cases h
/-- over a row of things that stays -/
theorem src_walk {m : Md} {nm : Bool} {J : It} {G : Hp → Prop} {ds : List D} {xs : List V} {fp : List Addr} {is : List (List MD)} (w : Walk J xs.length G (YAt xs)) (hG : ∀ H' S', Rch L H S H' S' → G H') (hm : m = .lk ∨ m = .sh)
    (r : Reps (KL K) H ds xs fp) (s : ∀ a ∈ fp, L a ∨ S a) (s2 : m = .sh → ∀ a ∈ fp, S a) (hi : (if nm = true then some (ds.map fun x => [childM m x]) else splitA m ds) = some is) : SrcOk (KL K) K nm L H S J is := by
  have hl : xs.length = ds.length := r.length
  have il : is.length = ds.length := by
    cases nm with
    | true => rw [if_pos rfl] at hi; cases hi; simp
    | false => rw [if_neg (by simp)] at hi; exact (splitA_get hi).1
  refine ⟨fun i H' S' h rc => w.goes i H' (by omega) (hG H' S' rc), fun H' S' rc => by rw [il, ← hl]; exact w.stops H' (hG H' S' rc), fun i rs x H' S' H'' e rc y => ?_⟩
  have hlt : i < xs.length := by
    have := (List.getElem?_eq_some_iff.mp e).1
    omega
  obtain ⟨eH, hx⟩ := w.yields i H' x H'' hlt (hG H' S' rc) y
  refine ⟨.inl eH, ?_⟩
  rw [eH]
  have part : ∀ d, ds[i]? = some d → ∃ f, Rep (KL K) H' d x f ∧ (∀ a ∈ f, L a ∨ S' a) ∧ (m = .sh → ∀ a ∈ f, S' a) := fun d hd => by
    obtain ⟨v, f, e1, r1, s1⟩ := r.get hd
    rw [hx] at e1
    cases e1
    exact ⟨f, rc.rep (fun a ha => s a (s1 a ha)) r1, fun a ha => (s a (s1 a ha)).imp id (rc.mon a), fun z a ha => rc.mon a (s2 z a (s1 a ha))⟩
  cases nm with
  | true =>
    rw [if_pos rfl] at hi
    cases hi
    rw [List.getElem?_map] at e
    obtain ⟨d, hd, rfl⟩ := Option.map_eq_some_iff.mp e
    obtain ⟨f, r1, s1, t1⟩ := part d hd
    exact ⟨_, rfl, child_lt hm r1 s1 t1⟩
  | false =>
    rw [if_neg (by simp)] at hi
    obtain ⟨ys, hd, rfl⟩ := (splitA_get hi).2 i rs e
    obtain ⟨f, ⟨a, zs, rfl, hs, r1⟩, s1, t1⟩ := part _ hd
    refine ⟨a, zs, rfl, .inl hs, by rw [r1.length, List.length_map], fun j y rr h1 h2 => ?_⟩
    rw [List.getElem?_map] at h2
    obtain ⟨d, hd2, rfl⟩ := Option.map_eq_some_iff.mp h2
    obtain ⟨v, f2, e1, r2, s2'⟩ := r1.get hd2
    rw [h1] at e1
    cases e1
    exact child_lt hm r2 (fun a ha => s1 a (s2' a ha)) fun z a ha => t1 z a (s2' a ha)
theorem rch_lst {v : V} {ds : List D} {fp : List Addr} (r : Rep (KL K) H (.lst ds) v fp) (s : ∀ a ∈ fp, L a ∨ S a) : ∃ a xs f1, v = .ref a ∧ SqL K H a xs ∧ (∀ H' S', Rch L H S H' S' → SqL K H' a xs) ∧ Reps (KL K) H ds xs f1 ∧ ∀ b ∈ f1, b ∈ fp := by
  obtain ⟨a, xs, f1, rfl, rs, (⟨q, rfl⟩ | ⟨q, rfl⟩)⟩ := r
  · refine ⟨a, xs, f1, rfl, .inl q, fun H' S' rc => .inl ?_, rs, fun b hb => List.mem_cons_of_mem _ hb⟩
    rcases q with q | ⟨o, q⟩
    · exact .inl (rc.keep a _ (s a List.mem_cons_self) (fun ps z => nomatch z) q)
    · exact .inr ⟨o, rc.frz a o _ q⟩
  · exact ⟨a, xs, _, rfl, .inr q, fun H' S' rc => .inr q, rs, fun b hb => hb⟩
theorem rch_tup {v : V} {ds : List D} {fp : List Addr} (r : Rep (KL K) H (.tup ds) v fp) : ∃ a xs, v = .ref a ∧ SqT K H a xs ∧ (∀ H' S', Rch L H S H' S' → SqT K H' a xs) ∧ Reps (KL K) H ds xs fp := by
  obtain ⟨a, xs, rfl, q, rs⟩ := r
  refine ⟨a, xs, rfl, .inl q, fun H' S' rc => .inl ?_, rs⟩
  rcases q with q | ⟨o, q⟩
  · exact .inl (rc.tup a _ q)
  · exact .inr ⟨o, rc.frz a o _ q⟩
/-- a list or a tuple, walked -/
def iSeq (K : PySem.W.Frag) (tl : TE) : TI := fun σ H R => tl σ H fun x H1 => ∃ a, x = .ref a ∧ ((∃ xs, SqL K H1 a xs ∧ R (Itl K a) H1) ∨ ∃ xs, SqT K H1 a xs ∧ R (Itt K a) H1)
theorem pi_seq {tg l : Expr} {tl : TE} (hl : PE X l tl) : PI X tg l (iSeq X.K tl) := by
  refine ⟨fun pins s σ H R I h => ?_⟩
  refine thn (hl.run pins s σ H _ I h) fun v s1 ⟨x, H1, I1, r1, q1⟩ => ?_
  obtain ⟨a, e, q⟩ := q1
  subst e
  cases r1
  rcases q with ⟨xs, hq, q⟩ | ⟨xs, hq, q⟩
  · obtain ⟨its, rv, p, hz⟩ := I1.list hq
    refine wpAny_pyIter_list p.isList ?_
    refine ⟨s1.heap.objs.size, [s1.heap.objs.size], _, _, H1, rfl, I1.kept (t' := s1.toks) fun b o e => Heap.get?_push_of_some _ e, turn_list a _, ⟨_, Heap.get?_push_size _ rfl, rfl, rfl⟩, fun b hb => ?_, q⟩
    have e : b = s1.heap.objs.size := by simpa using hb
    subst e
    exact I1.fpOk (Nat.le_refl _) (I1.hok.fresh (Nat.le_refl _))
  · obtain ⟨its, rv, p, hz⟩ := I1.tuple hq
    refine wpAny_pyIter_tuple (show s1.heap.IsTuple a its.toArray from p) ?_
    refine ⟨s1.heap.objs.size, [s1.heap.objs.size], _, _, H1, rfl, I1.kept (t' := s1.toks) fun b o e => Heap.get?_push_of_some _ e, turn_tuple a _, ⟨_, Heap.get?_push_size _ rfl, rfl, rfl⟩, fun b hb => ?_, q⟩
    have e : b = s1.heap.objs.size := by simpa using hb
    subst e
    exact I1.fpOk (Nat.le_refl _) (I1.hok.fresh (Nat.le_refl _))
theorem pi_weak {tg it : Expr} {t t' : TI} (h : PI X tg it t) (w : ∀ σ H R, t' σ H R → t σ H R) : PI X tg it t' := ⟨fun pins s σ H R I q => h.run pins s σ H R I (w σ H R q)⟩
theorem seq_end {nm : Bool} {m : Md} {d : D} {is : List (List MD)} {v : V} {fp : List Addr} {R : It → Hp → Prop} (hi : itsD nm m d = some is) (hm : m = .lk ∨ m = .sh) (r : Rep (KL K) H d v fp) (s : ∀ a ∈ fp, L a ∨ S a) (s2 : m = .sh → ∀ a ∈ fp, S a)
    (q : ∀ J, SrcOk (KL K) K nm L H S J is → R J H) : ∃ a, v = .ref a ∧ ((∃ xs, SqL K H a xs ∧ R (Itl K a) H) ∨ ∃ xs, SqT K H a xs ∧ R (Itt K a) H) := by
  unfold itsD at hi
  split at hi
  · obtain ⟨a, xs, f1, rfl, h1, h2, rs, sub⟩ := rch_lst r s
    exact ⟨a, rfl, .inl ⟨xs, h1, q _ (src_walk walk_list h2 hm rs (fun b hb => s b (sub b hb)) (fun z b hb => s2 z b (sub b hb)) hi)⟩⟩
  · obtain ⟨a, xs, rfl, h1, h2, rs⟩ := rch_tup (L := L) (S := S) r
    exact ⟨a, rfl, .inr ⟨xs, h1, q _ (src_walk walk_tup h2 hm rs s s2 hi)⟩⟩
  · cases hi
theorem i_v {nm : Bool} {f : Ev → Option Pv} {tg : Expr} (he : PE X e (tP (KL X.K) f)) : PI X tg e (tI (KL X.K) X.K mg W nm (srcV nm f)) := pi_weak (pi_seq he) fun σ H R => by
  rintro ⟨ev, O, S, L, ft, gd, k⟩
  unfold srcV at k
  split at k
  · rename_i m d hv
    split at k
    · rename_i is hi
      obtain ⟨p, hp, _, hm, ok⟩ := vwI_ok (C := KL X.K) (H := H) (S := S) (L := L) (σ := σ) hv
      refine ⟨ev, O, S, L, ft, gd, p, hp, fun v hx => ?_⟩
      obtain ⟨fp, r, s, s2⟩ := ok v hx
      exact seq_end hi hm r s s2 fun J so => k J H O S (.refl ft gd) so
    · exact k.elim
  · exact k.elim
theorem i_m {nm : Bool} {f : Ev → Rs MD} {tg : Expr} (he : PE X e (tE (KL X.K) mg W f)) : PI X tg e (tI (KL X.K) X.K mg W nm (srcM nm f)) := pi_weak (pi_seq he) fun σ H R => by
  rintro ⟨ev, O, S, L, ft, gd, k⟩
  refine ⟨ev, O, S, L, ft, gd, aft_bind k fun r ev1 k1 v H1 O1 S1 p => ?_⟩
  split at k1
  · rename_i is hi
    obtain ⟨O2, S2, fp, q, rr, ss, _⟩ := Pst.shareLast (rs1 := []) (vs1 := []) p rfl
    exact seq_end hi (.inr rfl) rr (fun a ha => .inr (ss a ha)) (fun _ => ss) fun J so => k1 J H1 O2 S2 q so
  · exact k1.elim

/-! ### range, enumerate, zip -/
theorem src_rng {lo : Int} {n : Nat} : SrcOk (KL K) K true L H S (Itr lo n) (rngI lo n) := by
  have il : (rngI lo n).length = n := by simp [rngI]
  refine ⟨fun i H' S' h rc => by rw [il] at h; exact h, fun H' S' rc => by rw [il]; exact Nat.le_refl n, fun i rs x H' S' H'' e rc y => ?_⟩
  obtain ⟨rfl, rfl⟩ := y
  refine ⟨.inl rfl, ?_⟩
  unfold rngI at e
  rw [List.getElem?_map] at e
  obtain ⟨k, hk, rfl⟩ := Option.map_eq_some_iff.mp e
  have : k = i := by
    obtain ⟨h1, h2⟩ := List.getElem?_eq_some_iff.mp hk
    simpa using h2.symm
  subst this
  exact ⟨_, rfl, [], ⟨rfl, rfl⟩, .inl ⟨rfl, rfl⟩⟩
theorem line_of {j : Int} (h : inLine j = true) : -(2 ^ 62) ≤ j ∧ j < 2 ^ 62 := inLine_iff.mp h
theorem arg_start {α : Type} {A : Arp α} {k : List Ag → Ev → Rs α} {kont : α → Ev → Prop} {Q : List V → Hp → Prop} (ft : Fit ev σ) (gd : Good C H O S L (ents ev σ)) (af : Aft C mg σ ev O S L H W (A k ev) kont)
    (fin : ∀ as vs tvs trs ev2 O2 S2 H2, Pst C L (fun _ => True) σ ev O S H trs ev2 tvs σ O2 S2 H2 → ArgR C H2 S2 L σ as vs tvs trs → Aft C mg σ ev O S L H W (k as ev2) kont → Q vs H2) : tAC C mg W A σ H Q :=
  ⟨k, kont, ev, O, S, H, L, [], [], ev, O, S, .refl ft gd, af, fun as vs tvs trs ev2 O2 S2 H2 p _ ar af2 => fin as vs tvs trs ev2 O2 S2 H2 (by simpa using p) ar af2⟩
theorem i_rng1 {A : Arp (List (List MD))} {tg : Expr} {p : Pos} (hg : Gl X "range") (hm : X.mg "range" = none) (ha : PA X [a] (tAC (KL X.K) mg W A)) (hs : starEach [a] X.env = [(false, eval a X.env)] := by rfl) :
    PI X tg (.Call (.Name "range" p) [a] [] pos) (tI (KL X.K) X.K mg W true (A kRng1)) := pi_weak (pi_range1 hg hm ha hs) fun σ H R => by
  rintro ⟨ev, O, S, L, ft, gd, k⟩
  refine arg_start ft gd k fun as vs tvs trs ev2 O2 S2 H2 p ar af => ?_
  unfold kRng1 at af
  split at af
  · rename_i j
    split at af
    · rename_i hj
      cases ar with
      | vl r s t ar' =>
        cases ar'
        obtain ⟨h1, h2⟩ := line_of hj
        rw [rp_int r]
        exact ⟨j, rfl, h1, h2, af _ H2 O2 S2 p src_rng⟩
    · exact af.elim
  · exact af.elim
theorem i_rng2 {A : Arp (List (List MD))} {tg : Expr} {p : Pos} (hg : Gl X "range") (hm : X.mg "range" = none) (ha : PA X [a, b] (tAC (KL X.K) mg W A)) (hs : starEach [a, b] X.env = [(false, eval a X.env), (false, eval b X.env)] := by rfl) (hs2 : starEach [b] X.env = [(false, eval b X.env)] := by rfl) :
    PI X tg (.Call (.Name "range" p) [a, b] [] pos) (tI (KL X.K) X.K mg W true (A kRng2)) := pi_weak (pi_range2 hg hm ha hs hs2) fun σ H R => by
  rintro ⟨ev, O, S, L, ft, gd, k⟩
  refine arg_start ft gd k fun as vs tvs trs ev2 O2 S2 H2 p ar af => ?_
  unfold kRng2 at af
  split at af
  · rename_i _ i _ j
    split at af
    · rename_i hj
      cases ar with
      | vl r s t ar' =>
        cases ar' with
        | vl r' s' t' ar2 =>
          cases ar2
          obtain ⟨h1, h2⟩ := line_of hj.1
          obtain ⟨h3, h4⟩ := line_of hj.2
          rw [rp_int r, rp_int r']
          exact ⟨i, j, rfl, ⟨h1, h2, h3, h4⟩, af _ H2 O2 S2 p src_rng⟩
    · exact af.elim
  · exact af.elim
theorem enumI_get {m : Md} : ∀ {ds : List D} {k i : Nat} {rs : List MD}, (enumI m k ds)[i]? = some rs → ∃ d, ds[i]? = some d ∧ rs = [(Md.dp, D.int ((k + i : Nat) : Int)), childM m d]
  | [], k, i, rs, h => by simp [enumI] at h
  | d :: ds, k, 0, rs, h => by
    simp only [enumI, List.getElem?_cons_zero, Option.some.injEq] at h
    exact ⟨d, rfl, h.symm⟩
  | d :: ds, k, i + 1, rs, h => by
    simp only [enumI, List.getElem?_cons_succ] at h
    obtain ⟨x, e, r⟩ := enumI_get h
    exact ⟨x, by simpa using e, by rw [r, show k + 1 + i = k + (i + 1) by omega]⟩
theorem enumI_len {m : Md} : ∀ {ds : List D} {k : Nat}, (enumI m k ds).length = ds.length
  | [], _ => rfl
  | d :: ds, k => by simp [enumI, enumI_len]
theorem zipI_get {m n : Md} : ∀ {ds es : List D} {i : Nat} {rs : List MD}, (zipI m n ds es)[i]? = some rs → ∃ d e, ds[i]? = some d ∧ es[i]? = some e ∧ rs = [childM m d, childM n e]
  | [], _, i, rs, h => by simp [zipI] at h
  | _ :: _, [], i, rs, h => by simp [zipI] at h
  | d :: ds, e :: es, 0, rs, h => by
    simp only [zipI, List.getElem?_cons_zero, Option.some.injEq] at h
    exact ⟨d, e, rfl, rfl, h.symm⟩
  | d :: ds, e :: es, i + 1, rs, h => by
    simp only [zipI, List.getElem?_cons_succ] at h
    obtain ⟨x, y, e1, e2, r⟩ := zipI_get h
    exact ⟨x, y, by simpa using e1, by simpa using e2, r⟩
theorem zipI_len {m n : Md} : ∀ {ds es : List D}, (zipI m n ds es).length = min ds.length es.length
  | [], _ => by simp [zipI]
  | _ :: _, [] => by simp [zipI]
  | d :: ds, e :: es => by simp [zipI, zipI_len]
/-- a new pair of two things -/
theorem pair_item {T : Addr} {y1 y2 : V} {r1 r2 : MD} (hT : H T = none) (l1 : Lt C H S L y1 r1) (l2 : Lt C H S L y2 r2) : ItemOk C K (upd H T (.tup [y1, y2])) S L false (.ref T) [r1, r2] := by
  have rc : Rch L H S (upd H T (.tup [y1, y2])) S := Rch.laid hT
  refine ⟨T, [y1, y2], rfl, .inl (.inl upd_same), rfl, fun j y r h1 h2 => ?_⟩
  match j with
  | 0 => cases h1; cases h2; exact rc.lt l1
  | 1 => cases h1; cases h2; exact rc.lt l2
  | j + 2 => simp at h1
theorem src_enum {m : Md} {ds : List D} {xs : List V} {a : Addr} {fp : List Addr} (hG : ∀ H' S', Rch L H S H' S' → SqL K H' a xs) (hm : m = .lk ∨ m = .sh) (r : Reps (KL K) H ds xs fp) (s : ∀ a ∈ fp, L a ∨ S a) (s2 : m = .sh → ∀ a ∈ fp, S a) : SrcOk (KL K) K false L H S (Ite K a) (enumI m 0 ds) := by
  have hl : xs.length = ds.length := r.length
  refine ⟨fun i H' S' h rc => walk_enum.goes i H' (by rw [enumI_len] at h; omega) (hG H' S' rc), fun H' S' rc => by rw [enumI_len, ← hl]; exact walk_enum.stops H' (hG H' S' rc), fun i rs x H' S' H'' e rc y => ?_⟩
  obtain ⟨d, hd, rfl⟩ := enumI_get e
  have hlt : i < xs.length := by
    have := (List.getElem?_eq_some_iff.mp hd).1
    omega
  obtain ⟨T, y1, y2, rfl, hT, rfl, e1, e2⟩ := walk_enum.yields i H' x H'' hlt (hG H' S' rc) y
  cases e1
  obtain ⟨v, f, e3, r1, s1⟩ := r.get hd
  have e2 : xs[i]? = some y2 := e2
  rw [e2] at e3
  cases e3
  refine ⟨.inr ⟨T, _, hT, rfl⟩, pair_item hT ⟨[], ⟨by rw [Nat.zero_add], rfl⟩, .inl ⟨rfl, rfl⟩⟩ ?_⟩
  exact child_lt hm (rc.rep (fun a ha => s a (s1 a ha)) r1) (fun a ha => (s a (s1 a ha)).imp id (rc.mon a)) fun z a ha => rc.mon a (s2 z a (s1 a ha))
theorem src_zip {m n : Md} {ds es : List D} {xs ys : List V} {a b : Addr} {fp fq : List Addr} (hG : ∀ H' S', Rch L H S H' S' → SqL K H' a xs ∧ SqL K H' b ys) (hm : m = .lk ∨ m = .sh) (hn : n = .lk ∨ n = .sh) (r : Reps (KL K) H ds xs fp) (s : ∀ a ∈ fp, L a ∨ S a) (t : m = .sh → ∀ a ∈ fp, S a) (r' : Reps (KL K) H es ys fq) (s' : ∀ a ∈ fq, L a ∨ S a) (t' : n = .sh → ∀ a ∈ fq, S a) :
    SrcOk (KL K) K false L H S (Itz K a b) (zipI m n ds es) := by
  have hl : xs.length = ds.length := r.length
  have hl' : ys.length = es.length := r'.length
  have hz : (zipI m n ds es).length = min xs.length ys.length := by rw [zipI_len, hl, hl']
  refine ⟨fun i H' S' h rc => (walk_zip hz).goes i H' h (hG H' S' rc), fun H' S' rc => (walk_zip hz).stops H' (hG H' S' rc), fun i rs x H' S' H'' e rc y => ?_⟩
  have hlt := (List.getElem?_eq_some_iff.mp e).1
  obtain ⟨d, d2, hd, hd2, rfl⟩ := zipI_get e
  obtain ⟨T, y1, y2, rfl, hT, rfl, e1, e2⟩ := (walk_zip hz).yields i H' x H'' hlt (hG H' S' rc) y
  obtain ⟨v, f, e3, r1, s1⟩ := r.get hd
  obtain ⟨v2, f2, e4, r2, s2⟩ := r'.get hd2
  have e1 : xs[i]? = some y1 := e1
  have e2 : ys[i]? = some y2 := e2
  rw [e1] at e3
  cases e3
  rw [e2] at e4
  cases e4
  refine ⟨.inr ⟨T, _, hT, rfl⟩, pair_item hT ?_ ?_⟩
  · exact child_lt hm (rc.rep (fun a ha => s a (s1 a ha)) r1) (fun a ha => (s a (s1 a ha)).imp id (rc.mon a)) fun z a ha => rc.mon a (t z a (s1 a ha))
  · exact child_lt hn (rc.rep (fun a ha => s' a (s2 a ha)) r2) (fun a ha => (s' a (s2 a ha)).imp id (rc.mon a)) fun z a ha => rc.mon a (t' z a (s2 a ha))
theorem flag_md (s : Bool) : (if s = true then Md.sh else Md.lk) = .lk ∨ (if s = true then Md.sh else Md.lk) = .sh := by cases s <;> simp
theorem flag_sh {s : Bool} (h : (if s = true then Md.sh else Md.lk) = .sh) : s = true := by cases s <;> simp_all
variable {elts : List Expr} {kk : Nat} {tpos p : Pos}
theorem i_enum {A : Arp (List (List MD))} (hg : Gl X "enumerate") (hm : X.mg "enumerate" = none) (ha : PA X [a] (tAC (KL X.K) mg W A)) (hs : starEach [a] X.env = [(false, eval a X.env)] := by rfl) :
    PI X (.Tuple elts kk tpos) (.Call (.Name "enumerate" p) [a] [] pos) (tI (KL X.K) X.K mg W false (A kEnum)) := pi_weak (pi_enum hg hm ha hs) fun σ H R => by
  rintro ⟨ev, O, S, L, ft, gd, k⟩
  refine arg_start ft gd k fun as vs tvs trs ev2 O2 S2 H2 p ar af => ?_
  unfold kEnum at af
  split at af
  · cases ar with
    | vl r s t ar' =>
      cases ar'
      obtain ⟨a, xs, f1, rfl, h1, h2, rs, sub⟩ := rch_lst r s
      obtain ⟨O3, q⟩ := p.drop
      exact ⟨a, xs, rfl, h1, af _ H2 O3 S2 q (src_enum h2 (flag_md _) rs (fun b hb => s b (sub b hb)) fun z b hb => t (flag_sh z) b (sub b hb))⟩
  · exact af.elim
theorem i_zip {A : Arp (List (List MD))} (hg : Gl X "zip") (hm : X.mg "zip" = none) (ha : PA X [a, b] (tAC (KL X.K) mg W A)) (hs : starEach [a, b] X.env = (false, eval a X.env) :: starEach [b] X.env := by rfl) (hpl : (backTo pos (starEach [b] X.env)).any (·.1) = false := by rfl) :
    PI X (.Tuple elts kk tpos) (.Call (.Name "zip" p) [a, b] [] pos) (tI (KL X.K) X.K mg W false (A kZip)) := pi_weak (pi_zip hg hm ha hs hpl) fun σ H R => by
  rintro ⟨ev, O, S, L, ft, gd, k⟩
  refine arg_start ft gd k fun as vs tvs trs ev2 O2 S2 H2 p ar af => ?_
  unfold kZip at af
  split at af
  · cases ar with
    | vl r s t ar' =>
      cases ar' with
      | vl r' s' t' ar2 =>
        cases ar2
        obtain ⟨a, xs, f1, rfl, h1, h2, rs, sub⟩ := rch_lst r s
        obtain ⟨b, ys, f2, rfl, h3, h4, rs', sub'⟩ := rch_lst r' s'
        obtain ⟨O3, q⟩ := p.drop
        exact ⟨a, b, xs, ys, rfl, h1, h3, af _ H2 O3 S2 q (src_zip (fun H' S' rc => ⟨h2 H' S' rc, h4 H' S' rc⟩) (flag_md _) (flag_md _) rs (fun b hb => s b (sub b hb)) (fun z b hb => t (flag_sh z) b (sub b hb)) rs' (fun b hb => s' b (sub' b hb)) fun z b hb => t' (flag_sh z) b (sub' b hb))⟩
  · exact af.elim
end
end T6

namespace T6
open PySem PySem.Spec PyProof.Rows L2
variable [Tbl]
/-- a list of ours, one more behind -/
def appM (l r : MD) : Option MD := match l with
  | (m, .lst ds) => if ds.length < sizeLine then match m with
      | .dp => some (if r.1 = .dp ∨ flat r.2 = true then .dp else .rt, .lst (ds ++ [r.2]))
      | .rt => some (.rt, .lst (ds ++ [r.2]))
      | _ => none
    else none
  | _ => none
section
variable {K : PySem.W.Frag} {C : Cs} {mg : Str → Option Value} {X : Cx} {W : WX} {a b e : Expr} {H H' H1 H2 : Hp} {O O' O1 O2 S S' S1 S2 L : Ps} {P P' : Nat → Prop} {σ τ : L2.St} {ev ev1 ev2 : Ev} {pos : Pos} {rs rs1 rs2 : List MD} {vs vs1 vs2 : List V} {es : List En}
theorem Ents.smono : ∀ {es : List En} {o : List Addr}, Ents C H S L es o → (∀ a, S a → S' a) → Ents C H S' L es o
  | [], _, h, _ => h
  | e :: es, _, ⟨o1, o2, rfl, h1, h2⟩, k => by
    refine ⟨o1, o2, rfl, ?_, h2.smono k⟩
    obtain ⟨v, m, d⟩ := e
    cases m
    · obtain ⟨e, fp, r, s⟩ := h1; exact ⟨e, fp, r, fun a ha => k a (s a ha)⟩
    · obtain ⟨a, f1, e1, e2, q, h⟩ := h1; exact ⟨a, f1, e1, e2, fun b hb => k b (q b hb), h⟩
    · exact h1
    · obtain ⟨e, fp, r, s⟩ := h1; exact ⟨e, fp, r, fun a ha => (s a ha).imp id (k a)⟩
/-- only the root stays ours -/
theorem Good.toRt {v : V} {ds : List D} (g : Good C H O S L ((v, (Md.dp, .lst ds)) :: es)) : ∃ O' S', Good C H O' S' L ((v, (Md.rt, .lst ds)) :: es) ∧ (∀ a, O' a → O a) ∧ (∀ a, S a → S' a) ∧ (∀ a, S' a → S a ∨ O a) := by
  obtain ⟨ol, ⟨o1, o2, rfl, ⟨⟨a, vs, f1, hv, rs, (⟨q, hq⟩ | ⟨q, _⟩)⟩, tk⟩, h2⟩, nd, m⟩ := g.ex
  rotate_left
  · exact q.elim
  have hv : v = .ref a := hv
  have hq : o1 = a :: f1 := hq
  subst hv hq
  have nd' := List.nodup_append.mp nd
  have nd1 := List.nodup_cons.mp nd'.1
  have mO : ∀ b, b ∈ a :: f1 → O b := fun b h => (m b).mp (List.mem_append_left _ h)
  have hH : H a = some (.lst vs) := by
    rcases q with q | ⟨o, q⟩
    · exact q
    · exact (Trk.nofrz (tk a List.mem_cons_self) q).elim
  refine ⟨fun b => b ∈ [a] ++ o2, fun b => S b ∨ b ∈ f1, ⟨⟨[a] ++ o2, ⟨[a], o2, rfl, ⟨a, f1, rfl, rfl, fun b hb => .inr hb, .inl ⟨ds, vs, rfl, hH, rs.mono⟩⟩, h2.smono fun _ h => .inl h⟩, ?_, fun _ => Iff.rfl⟩, fun b h => ?_, fun b h z => ?_, fun b h => ?_, g.tab⟩, fun b h => ?_, fun b h => .inl h, fun b h => ?_⟩
  · refine List.nodup_append.mpr ⟨by simp, nd'.2.1, fun x hx y hy e => ?_⟩
    exact nd'.2.2 x (by simp at hx; rw [hx]; simp) y hy e
  · rcases List.mem_append.mp h with h | h
    · simp only [List.mem_singleton] at h
      subst h
      exact ⟨fun z => z.elim (g.os b (mO b (by simp))).1 nd1.1, (g.os b (mO b (by simp))).2⟩
    · have hb : O b := (m b).mp (List.mem_append_right _ h)
      exact ⟨fun z => z.elim (g.os b hb).1 fun z => nd'.2.2 b (List.mem_cons_of_mem _ z) b h rfl, (g.os b hb).2⟩
  · rcases h with h | h
    · exact g.sl b h z
    · exact (g.os b (mO b (List.mem_cons_of_mem _ h))).2 z
  · rcases h with (h | h) | h
    · exact g.lv b (.inl h)
    · exact (tk b (List.mem_cons_of_mem _ h)).ne
    · exact g.lv b (.inr h)
  · rcases List.mem_append.mp h with h | h
    · simp only [List.mem_singleton] at h
      subst h; exact mO b (by simp)
    · exact (m b).mp (List.mem_append_right _ h)
  · exact h.imp id fun z => mO b (List.mem_cons_of_mem _ z)
/-- an object of ours is written -/
theorem Go.wr {a : Addr} {o : HO} (hO : O a) (t : Trk H a) : Go O S H O S (upd H a o) where
  keep := fun b u h n => .inl (by
    rw [upd_ne fun e => n (by rw [e]; exact hO)]; exact h)
  code := fun c h => by
    rw [upd_ne fun e => t.nooth (by rw [← e]; exact h) (.inl ⟨_, rfl⟩)]; exact h
  live := fun b h => by
    by_cases e : b = a
    · rw [e, upd_same]; simp
    · rw [upd_ne e]; exact h
  newO := fun b h => .inl h
  monS := fun b h => h
  newS := fun b h => .inl h
theorem kp_upd {a : Addr} {o : HO} {fp : List Addr} (n : a ∉ fp) (t : Trk H a) : Kp fp H (upd H a o) :=
  ⟨fun b hb => upd_ne fun e => n (by rw [← e]; exact hb), fun b xs h => by
    rw [upd_ne fun e => t.notup (by rw [← e]; exact h)]; exact h, fun b ob u h => by
    rw [upd_ne fun e => t.nofrz (by rw [← e]; exact h)]; exact h, fun b u h o => by
    rw [upd_ne fun e => t.nooth (by rw [← e]; exact h) o]; exact h⟩
/-- the root's own list is known -/
theorem rt_root {v : V} {ds : List D} (g : Good C H O S L ((v, (Md.rt, .lst ds)) :: es)) : ∃ a vs f1 O2, v = .ref a ∧ H a = some (.lst vs) ∧ Reps C H ds vs f1 ∧ (∀ b ∈ f1, S b) ∧ Good C H O2 S L es ∧ O a ∧ ¬ O2 a ∧ ∀ b, O b ↔ b = a ∨ O2 b := by
  obtain ⟨ol, ⟨o1, o2, rfl, ⟨a, f1, hv, ho, q, h⟩, h2⟩, nd, m⟩ := g.ex
  subst ho
  have nd' := List.nodup_append.mp nd
  rcases h with ⟨ds', vs, e, hH, rs⟩ | ⟨ks, ds', kvs, e, _⟩
  · cases e
    refine ⟨a, vs, f1, (· ∈ o2), hv, hH, rs, q, ⟨⟨o2, h2, nd'.2.1, fun _ => Iff.rfl⟩, fun b h => g.os b ((m b).mp (List.mem_append_right _ h)), g.sl, g.lv, g.tab⟩, (m a).mp (by simp), fun z => nd'.2.2 a (by simp) a z rfl, fun b => ?_⟩
    rw [← m b]; simp
  · cases e
/-- the root gets other items, shared ones -/
theorem Good.rtSet {a : Addr} {vs ws : List V} {ds es' : List D} {f : List Addr} (g : Good C H O S L ((.ref a, (Md.rt, .lst ds)) :: es)) (hH : H a = some (.lst vs)) (r : Reps C H es' ws f) (s : ∀ b ∈ f, S b) :
    Good C (upd H a (.lst ws)) O S L ((.ref a, (Md.rt, .lst es')) :: es) ∧ Go O S H O S (upd H a (.lst ws)) := by
  obtain ⟨a', vs', f1, O2, e, hH', rs, q, g2, oa, n2, mm⟩ := rt_root g
  cases e
  have ta : Trk H a := .inl ⟨vs, hH⟩
  have nf : a ∉ f := fun z => (g.os a oa).1 (s a z)
  have go : Go (fun b => b = a) S H (fun b => b = a) S (upd H a (.lst ws)) := Go.wr rfl ta
  have g1 : Good C H (fun b => b = a) S L [(.ref a, (Md.rt, .lst ds))] := ⟨⟨[a], ⟨[a], [], rfl, ⟨a, f1, rfl, rfl, q, .inl ⟨ds, vs', rfl, hH', rs⟩⟩, rfl⟩, by simp, by simp⟩, fun b h => by rw [h]; exact g.os a oa, g.sl, g.lv, g.tab⟩
  have g1' : Good C (upd H a (.lst ws)) (fun b => b = a) S L [(.ref a, (Md.rt, .lst es'))] := ⟨⟨[a], ⟨[a], [], rfl, ⟨a, f, rfl, rfl, s, .inl ⟨es', ws, rfl, upd_same, r.kp (kp_upd nf ta)⟩⟩, rfl⟩, by simp, by simp⟩, fun b h => by rw [h]; exact g.os a oa, g.sl, fun b h => go.live b (g.lv b h), go.tab (fun b h => by rw [h]; exact ta) g.tab⟩
  obtain ⟨G, _⟩ := g1.frame g2 (fun b h => by rw [h]; exact n2) g1' go
  refine ⟨G.cong fun b => (mm b).symm, Go.wr oa ta⟩
/-- one more behind -/
theorem Good.app {a : Addr} {v : V} {l r l' : MD} (g : Good C H O S L ((.ref a, l) :: (v, r) :: es)) (hr : r.1 ≠ .lk) (h : appM l r = some l') : ∃ vs O' S', H a = some (.lst vs) ∧ vs.length < sizeLine ∧
    Good C (upd H a (.lst (vs ++ [v]))) O' S' L ((.ref a, l') :: es) ∧ Go O S H O' S' (upd H a (.lst (vs ++ [v]))) := by
  obtain ⟨m, d⟩ := l
  unfold appM at h
  split at h
  rotate_left
  · cases h
  rename_i m' ds heq
  cases heq
  split at h
  rotate_left
  · cases h
  rename_i hz
  -- by the root alone
  have viaRt : ∀ {O S : Ps}, Good C H O S L ((.ref a, (Md.rt, .lst ds)) :: (v, r) :: es) → ∃ vs O' S', H a = some (.lst vs) ∧ vs.length < sizeLine ∧
      Good C (upd H a (.lst (vs ++ [v]))) O' S' L ((.ref a, (Md.rt, .lst (ds ++ [r.2]))) :: es) ∧ Go O S H O' S' (upd H a (.lst (vs ++ [v]))) := by
    intro O S g
    obtain ⟨O1, S1, g1, a1, a2, a3, _⟩ := (g.perm (.swap _ _ _)).share hr
    obtain ⟨o, _, fp, rr, s⟩ := good_ent g1
    obtain ⟨O2, g2, b1⟩ := Good.drop (es := [(v, (Md.sh, r.2))]) g1
    obtain ⟨a', vs, f1, O3, e, hH, rs, q, g3, oa, n2, mm⟩ := rt_root g2
    cases e
    have rap : Reps C H (ds ++ [r.2]) (vs ++ [v]) (f1 ++ (fp ++ [])) := rs.append ⟨v, [], fp, [], rfl, rfl, rr, rfl, rfl⟩
    obtain ⟨g4, go4⟩ := g2.rtSet hH rap fun b hb => by
      rcases List.mem_append.mp hb with hb | hb
      · exact q b hb
      · exact s b (by simpa using hb)
    refine ⟨vs, O2, S1, hH, by rw [rs.length]; exact hz, g4, Go.trans ?_ go4⟩
    exact ⟨fun _ _ h _ => .inl h, fun _ h => h, fun _ h => h, fun b h => .inl (a1 b (b1 b h)), a2, fun b h => (a3 b h).imp id .inl⟩
  cases m with
  | sh => cases h
  | lk => cases h
  | rt =>
    cases h
    exact viaRt g
  | dp =>
    dsimp only at h
    by_cases hd : r.1 = .dp ∨ T6.flat r.2 = true
    · rw [if_pos hd] at h
      cases h
      obtain ⟨OX, OE, gX, gE, m, d⟩ := Good.parts (es := [(.ref a, (Md.dp, .lst ds)), (v, r)]) (fs := es) g
      obtain ⟨ol, ⟨o1, o2', rfl, ⟨⟨a', vs, f1, hv, rs, (⟨q, hq⟩ | ⟨q, _⟩)⟩, tk⟩, o3, o4, rfl, hr3, ho4⟩, nd, mX⟩ := gX.ex
      rotate_left
      · exact q.elim
      have hv : V.ref a = .ref a' := hv
      cases hv
      have hq : o1 = a :: f1 := hq
      subst hq
      have ho4 : o4 = [] := ho4
      subst ho4
      have hH : H a = some (.lst vs) := by
        rcases q with q | ⟨o, q⟩
        · exact q
        · exact (Trk.nofrz (tk a List.mem_cons_self) q).elim
      -- the new thing's own lists
      have new : ∃ fo, Rep RF H r.2 v fo ∧ (∀ b ∈ fo, Trk H b) ∧ fo.Sublist o3 := by
        obtain ⟨mr, dr⟩ := r
        by_cases fl : T6.flat dr = true
        · obtain ⟨fp, rr⟩ := hr3.rep
          exact ⟨[], rep_flat_rf fl rr, by simp, List.nil_sublist _⟩
        · have e : mr = .dp := hd.resolve_right fl
          subst e
          exact ⟨o3, hr3.1, hr3.2, List.Sublist.refl _⟩
      obtain ⟨fo, rr, tf, sub⟩ := new
      have nd2 := List.nodup_append.mp nd
      have nd3 := List.nodup_cons.mp nd2.1
      have na : a ∉ f1 ++ (fo ++ []) := fun z => by
        rcases List.mem_append.mp z with z | z
        · exact nd3.1 z
        · exact nd2.2.2 a List.mem_cons_self a (by simpa using sub.subset (by simpa using z)) rfl
      have ta : Trk H a := .inl ⟨vs, hH⟩
      have OXa : OX a := (mX a).mp (by simp)
      have rap : Reps RF H (ds ++ [r.2]) (vs ++ [v]) (f1 ++ (fo ++ [])) := rs.append ⟨v, [], fo, [], rfl, rfl, rr, rfl, rfl⟩
      have inO : ∀ b, b ∈ a :: (f1 ++ (fo ++ [])) → OX b := fun b h => (mX b).mp (by
        rcases List.mem_cons.mp h with h | h
        · rw [h]; simp
        · rcases List.mem_append.mp h with h | h
          · exact List.mem_append_left _ (List.mem_cons_of_mem _ h)
          · exact List.mem_append_right _ (by simpa using sub.subset (by simpa using h)))
      have g' : Good C (upd H a (.lst (vs ++ [v]))) (fun b => b ∈ a :: (f1 ++ (fo ++ []))) S L [(.ref a, (Md.dp, .lst (ds ++ [r.2])))] := by
        refine ⟨⟨a :: (f1 ++ (fo ++ [])), ⟨_, [], by simp, ⟨⟨a, vs ++ [v], _, rfl, rap.kp (kp_upd na ta), .inl ⟨.inl upd_same, rfl⟩⟩, fun b h => ?_⟩, rfl⟩, ?_, fun _ => Iff.rfl⟩, fun b h => gX.os b (inO b h), gX.sl, fun b h => (Go.wr (O := OX) (S := S) OXa ta).live b (gX.lv b h), (Go.wr (O := OX) (S := S) OXa ta).tab gX.trk gX.tab⟩
        · rcases List.mem_cons.mp h with h | h
          · rw [h]; exact .inl ⟨_, upd_same⟩
          · have hb : b ≠ a := fun e => na (by rw [← e]; exact h)
            have tb : Trk H b := by
              rcases List.mem_append.mp h with h | h
              · exact tk b (List.mem_cons_of_mem _ h)
              · exact tf b (by simpa using h)
            rcases tb with ⟨xs, q⟩ | ⟨xs, q⟩
            · exact .inl ⟨xs, by rw [upd_ne hb]; exact q⟩
            · exact .inr ⟨xs, by rw [upd_ne hb]; exact q⟩
        · refine List.nodup_cons.mpr ⟨na, List.nodup_append.mpr ⟨nd3.2, by simpa using sub.nodup (by simpa using nd2.2.1), fun x hx y hy e => ?_⟩⟩
          exact nd2.2.2 x (List.mem_cons_of_mem _ hx) y (by simpa using sub.subset (by simpa using hy)) e
      have go' : Go OX S H (fun b => b ∈ a :: (f1 ++ (fo ++ []))) S (upd H a (.lst (vs ++ [v]))) := (Go.wr OXa ta).less inO
      obtain ⟨G, gg⟩ := gX.frame gE d g' go'
      exact ⟨vs, _, S, hH, by rw [rs.length]; exact hz, G, ⟨fun b o h n => gg.keep b o h fun z => n ((m b).mpr z), gg.code, gg.live, fun b h => (gg.newO b h).imp (m b).mpr id, gg.monS, fun b h => (gg.newS b h).imp id fun z => z.imp (m b).mpr id⟩⟩
    · rw [if_neg hd] at h
      cases h
      obtain ⟨O1, S1, g1, a1, a2, a3⟩ := g.toRt
      obtain ⟨vs, O', S', h1, h2, h3, h4⟩ := viaRt g1
      refine ⟨vs, O', S', h1, h2, h3, Go.trans ⟨fun _ _ h _ => .inl h, fun _ h => h, fun _ h => h, fun b h => .inl (a1 b h), a2, fun b h => (a3 b h).imp id .inl⟩ h4⟩
end
end T6

namespace T6
open PySem PySem.Spec PyProof.Rows L2
variable [Tbl]
def wipeE : List Nat → Ev → Ev
  | [], ev => ev
  | v :: vs, ev => (wipeE vs ev).set v none
def restE : List Nat → Ev → Ev → Ev
  | [], _, ev' => ev'
  | v :: vs, ev, ev' => restE vs ev (ev'.set v ((wipeE vs ev).getD v none))
/-- the turns of a comprehension: own, the names of its block -/
def lcG (tgs own : List Nat) (test : Ev → Rs Bool) (elt : Ev → Rs MD) : List (List MD) → MD → Ev → Rs MD
  | [], acc, ev => .ok acc ev
  | x :: xs, acc, ev => if x.length = tgs.length ∧ (∀ i ∈ tgs, i < ev.length) then match test (asgn tgs x ev) with
      | .ok true ev1 => match elt ev1 with
        | .ok r ev2 => match appM acc r with
          | some acc' => lcG tgs own test elt xs acc' (wipeE own ev2)
          | none => .no
        | _ => .no
      | .ok false ev1 => lcG tgs own test elt xs acc (wipeE own ev1)
      | _ => .no
    else .no
def lcM (src : Ev → Rs (List (List MD))) (tgs own : List Nat) (test : Ev → Rs Bool) (elt : Ev → Rs MD) : Ev → Rs MD := fun ev => (src ev).bind fun items ev1 =>
  match lcG tgs own test elt items (.dp, .lst []) (wipeE own ev1) with
  | .ok r ev2 => .ok r (restE own ev1 (wipeE own ev2))
  | _ => .no
def tYesM : Ev → Rs Bool := fun ev => .ok true ev
abbrev W0 : WX := fun _ _ _ _ => False
section
variable {K : PySem.W.Frag} {C : Cs} {mg : Str → Option Value} {X : Cx} {W : WX} {a b e : Expr} {H H' H1 H2 : Hp} {O O' O1 O2 S S' S1 S2 L : Ps} {P P' : Nat → Prop} {σ τ : L2.St} {ev ev1 ev2 : Ev} {pos : Pos} {rs rs1 rs2 : List MD} {vs vs1 vs2 : List V} {es : List En}
theorem set_none {ev : Ev} {i : Nat} (h : ∀ md, ev[i]? ≠ some (some md)) : ev.set i none = ev := by
  apply List.ext_getElem (by simp)
  intro n h1 h2
  by_cases z : i = n
  · subst z
    rw [List.getElem_set_self]
    cases q : ev[i] with
    | none => rfl
    | some md => exact absurd (by rw [List.getElem?_eq_getElem h2, q]) (h md)
  · simp [z]
theorem fit_sn : ∀ {ev : Ev} {σ : L2.St} {i : Nat}, Fit ev σ → (∀ md, ev[i]? ≠ some (some md)) → Fit ev (σ.set i none) ∧ ents ev (σ.set i none) = ents ev σ
  | [], [], i, _, _ => ⟨trivial, rfl⟩
  | none :: ev, s :: σ, 0, h, _ => ⟨h, rfl⟩
  | some md :: ev, some v :: σ, 0, h, n => absurd rfl (n md)
  | none :: ev, s :: σ, i + 1, h, n => by
    obtain ⟨a, b⟩ := fit_sn (ev := ev) (σ := σ) (i := i) h (fun md z => n md (by simpa using z))
    exact ⟨a, b⟩
  | some md :: ev, some v :: σ, i + 1, h, n => by
    obtain ⟨a, b⟩ := fit_sn (ev := ev) (σ := σ) (i := i) h (fun md z => n md (by simpa using z))
    exact ⟨a, by
      show (v, md) :: ents ev (σ.set i none) = (v, md) :: ents ev σ
      rw [b]⟩
  | [], _ :: _, _, h, _ => h.elim
  | none :: _, [], _, h, _ => h.elim
  | some _ :: _, [], _, h, _ => h.elim
  | some _ :: _, none :: _, _, h, _ => h.elim
theorem get_sn {ev : Ev} {i : Nat} : ∀ md, (ev.set i none)[i]? ≠ some (some md) := fun md z => by
  by_cases l : i < ev.length
  · rw [List.getElem?_set_self l] at z; cases z
  · rw [List.getElem?_eq_none (by simpa using l)] at z; cases z
theorem wipeE_none : ∀ {vs : List Nat} {ev : Ev} {i : Nat}, i ∈ vs → ∀ md, (wipeE vs ev)[i]? ≠ some (some md)
  | v :: vs, ev, i, h, md => by
    unfold wipeE
    by_cases e : v = i
    · subst e; exact get_sn md
    · rw [List.getElem?_set_ne e]
      rcases List.mem_cons.mp h with z | z
      · exact absurd z.symm e
      · exact wipeE_none z md
theorem wipeE_out : ∀ {vs : List Nat} {ev : Ev} {i : Nat}, i ∉ vs → (wipeE vs ev)[i]? = ev[i]?
  | [], _, _, _ => rfl
  | v :: vs, ev, i, h => by
    unfold wipeE
    rw [List.getElem?_set_ne (fun e => h (by rw [e]; simp))]
    exact wipeE_out fun z => h (List.mem_cons_of_mem _ z)
theorem wipeE_len : ∀ {vs : List Nat} {ev : Ev}, (wipeE vs ev).length = ev.length
  | [], _ => rfl
  | v :: vs, ev => by unfold wipeE; rw [List.length_set, wipeE_len]
/-- the block's names taken out, and put back -/
theorem wipe_fit : ∀ {vs : List Nat} {ev : Ev} {σ : L2.St}, Fit ev σ → ∃ Xs : List En, (ents ev σ).Perm (Xs ++ ents (wipeE vs ev) (wipe σ vs)) ∧ Fit (wipeE vs ev) (wipe σ vs) ∧
    ∀ ev', Fit ev' (wipe σ vs) → (∀ i ∈ vs, ∀ md, ev'[i]? ≠ some (some md)) → Fit (restE vs ev ev') σ ∧ (ents (restE vs ev ev') σ).Perm (Xs ++ ents ev' (wipe σ vs))
  | [], ev, σ, h => ⟨[], .refl _, h, fun ev' h' _ => ⟨h', .refl _⟩⟩
  | v :: vs, ev, σ, h => by
    obtain ⟨X1, p1, f1, k1⟩ := wipe_fit (vs := vs) h
    unfold wipeE wipe restE
    cases hv : (wipeE vs ev)[v]? with
    | none =>
      have e1 : (wipeE vs ev).set v none = wipeE vs ev := set_none fun md z => by rw [hv] at z; cases z
      have hw : (wipe σ vs).set v none = wipe σ vs := by
        apply List.set_eq_of_length_le
        rw [← f1.length]
        exact List.getElem?_eq_none_iff.mp hv
      have e2 : (wipeE vs ev).getD v none = none := by rw [List.getD_eq_getElem?_getD, hv]; rfl
      rw [e1, hw, e2]
      refine ⟨X1, p1, f1, fun ev' h' n => ?_⟩
      have e3 : ev'.set v none = ev' := set_none (n v (by simp))
      rw [e3]
      exact k1 ev' h' fun i hi => n i (List.mem_cons_of_mem _ hi)
    | some s =>
      cases s with
      | none =>
        have nn : ∀ md, (wipeE vs ev)[v]? ≠ some (some md) := fun md z => by rw [hv] at z; cases z
        have e1 : (wipeE vs ev).set v none = wipeE vs ev := set_none nn
        have e2 : (wipeE vs ev).getD v none = none := by rw [List.getD_eq_getElem?_getD, hv]; rfl
        obtain ⟨fa, fb⟩ := fit_sn f1 nn
        rw [e1, e2]
        refine ⟨X1, by rw [fb]; exact p1, fa, fun ev' h' n => ?_⟩
        have e3 : ev'.set v none = ev' := set_none (n v (by simp))
        rw [e3]
        -- what was in the slot does not matter
        have back : Fit ev' (wipe σ vs) ∧ ents ev' (wipe σ vs) = ents ev' ((wipe σ vs).set v none) := by
          have q := fit_sn (i := v) (ev := ev') (σ := (wipe σ vs).set v none)
          have gen : ∀ {ev' : Ev} {ρ : L2.St} {v : Nat} {x : Option V}, Fit ev' (ρ.set v none) → (∀ md, ev'[v]? ≠ some (some md)) → Fit ev' ρ ∧ ents ev' ρ = ents ev' (ρ.set v none) := by
            intro ev'
            induction ev' with
            | nil => intro ρ v x h n; cases ρ with
              | nil => exact ⟨trivial, rfl⟩
              | cons y ρ => cases v <;> exact h.elim
            | cons t ev' ih => intro ρ v x h n; cases ρ with
              | nil => cases t <;> exact h.elim
              | cons y ρ => cases v with
                | zero => cases t with
                  | none => exact ⟨h, rfl⟩
                  | some md => exact absurd rfl (n md)
                | succ v =>
                  have n' : ∀ md, ev'[v]? ≠ some (some md) := fun md z => n md (by simpa using z)
                  cases t with
                  | none =>
                    obtain ⟨a, b⟩ := ih (ρ := ρ) (v := v) (x := x) h n'
                    exact ⟨a, b⟩
                  | some md => cases y with
                    | none => exact h.elim
                    | some w =>
                      obtain ⟨a, b⟩ := ih (ρ := ρ) (v := v) (x := x) h n'
                      exact ⟨a, by
                        show (w, md) :: ents ev' ρ = (w, md) :: ents ev' (ρ.set v none)
                        rw [b]⟩
          exact gen (x := none) h' (n v (by simp))
        obtain ⟨b1, b2⟩ := back
        obtain ⟨c1, c2⟩ := k1 ev' b1 fun i hi => n i (List.mem_cons_of_mem _ hi)
        exact ⟨c1, by rw [← b2]; exact c2⟩
      | some md =>
        obtain ⟨w, ew, pw, fw⟩ := fit_get f1 hv
        obtain ⟨fa, fb⟩ := fit_sn fw get_sn
        have e2 : (wipeE vs ev).getD v none = some md := by rw [List.getD_eq_getElem?_getD, hv]; rfl
        rw [e2]
        refine ⟨(w, md) :: X1, ?_, fa, fun ev' h' n => ?_⟩
        · rw [fb]
          refine p1.trans ((pw.append_left _).trans ?_)
          exact List.perm_middle
        · have lv : v < ev'.length := by
            have h1 := h'.length
            rw [List.length_set] at h1
            have := (List.getElem?_eq_some_iff.mp ew).1
            omega
          obtain ⟨ps, fs⟩ := fit_set (md := md) (v := w) h' lv
          have es : ((wipe σ vs).set v none).set v (some w) = wipe σ vs := by
            rw [List.set_set]
            obtain ⟨h1, h2⟩ := List.getElem?_eq_some_iff.mp ew
            apply List.ext_getElem (by simp)
            intro n h3 h4
            by_cases z : v = n
            · subst z; simp [h2]
            · simp [z]
          have e3 : ev'.set v none = ev' := set_none (n v (by simp))
          rw [es, e3] at ps
          rw [es] at fs
          obtain ⟨c1, c2⟩ := k1 (ev'.set v (some md)) fs (fun i hi md' z => by
            by_cases e : v = i
            · subst e
              exact absurd hv (by
                intro q
                exact wipeE_none hi md q)
            · rw [List.getElem?_set_ne e] at z
              exact n i (List.mem_cons_of_mem _ hi) md' z)
          refine ⟨c1, c2.trans ((ps.append_left _).trans ?_)⟩
          exact List.perm_middle
theorem restE_get : ∀ {vs : List Nat} {ev ev' : Ev} {j : Nat} {md : MD}, (∀ i ∈ vs, ∀ md, ev'[i]? ≠ some (some md)) → (restE vs ev ev')[j]? = some (some md) → (j ∈ vs ∧ ev[j]? = some (some md)) ∨ (j ∉ vs ∧ ev'[j]? = some (some md))
  | [], _, _, _, _, _, h => .inr ⟨by simp, h⟩
  | v :: vs, ev, ev', j, md, n, h => by
    unfold restE at h
    have step : ∀ (s : Option MD), s = (wipeE vs ev).getD v none → (restE vs ev (ev'.set v s))[j]? = some (some md) → (j ∈ v :: vs ∧ ev[j]? = some (some md)) ∨ (j ∉ v :: vs ∧ ev'[j]? = some (some md)) := fun s hs h => by
      have n1 : ∀ i ∈ vs, ∀ md, (ev'.set v s)[i]? ≠ some (some md) := fun i hi md' z => by
        by_cases e : v = i
        · subst e
          by_cases l : v < ev'.length
          · rw [List.getElem?_set_self l] at z
            have : s = some md' := Option.some.inj z
            rw [hs, List.getD_eq_getElem?_getD] at this
            cases q : (wipeE vs ev)[v]? with
            | none => rw [q] at this; cases this
            | some t => rw [q] at this; exact wipeE_none hi md' (by rw [q]; exact congrArg some this)
          · rw [List.getElem?_eq_none (by simpa using l)] at z; cases z
        · rw [List.getElem?_set_ne e] at z
          exact n i (List.mem_cons_of_mem _ hi) md' z
      rcases restE_get n1 h with ⟨h1, h2⟩ | ⟨h1, h2⟩
      · exact .inl ⟨List.mem_cons_of_mem _ h1, h2⟩
      · by_cases e : v = j
        · subst e
          by_cases l : v < ev'.length
          · rw [List.getElem?_set_self l] at h2
            have : s = some md := Option.some.inj h2
            rw [hs, List.getD_eq_getElem?_getD] at this
            refine .inl ⟨by simp, ?_⟩
            rw [← wipeE_out h1]
            cases q : (wipeE vs ev)[v]? with
            | none => rw [q] at this; cases this
            | some t => rw [q] at this; exact congrArg some this
          · rw [List.getElem?_eq_none (by simpa using l)] at h2; cases h2
        · rw [List.getElem?_set_ne e] at h2
          exact .inr ⟨by simp [h1]; exact fun z => e z.symm, h2⟩
    exact step _ rfl h
/-- a block's turn is over -/
theorem Pst.wipe {own : List Nat} {σw : L2.St} (p : Pst C L (fun j => j ∉ own) σw ev O S H rs ev1 vs τ O1 S1 H1) (hw : L2.wipe τ own = L2.wipe σw own) (hσ : L2.wipe σw own = σw) :
    ∃ O', Pst C L (fun _ => True) σw ev O S H rs (wipeE own ev1) vs σw O' S1 H1 := by
  obtain ⟨Xs, pp, ff, _⟩ := wipe_fit (vs := own) p.fit
  rw [hw, hσ] at pp ff
  have g : Good C H1 O1 S1 L (Xs ++ (vs.zip rs ++ ents (wipeE own ev1) σw)) := p.good.perm (by
    refine (pp.append_left _).trans ?_
    rw [← List.append_assoc, ← List.append_assoc]
    exact List.perm_append_comm.append_right _)
  obtain ⟨O2, g2, le⟩ := Good.drop g
  refine ⟨O2, ff, fun j _ => ⟨rfl, fun d z => ?_⟩, p.len, p.nl, g2, p.go.less le⟩
  by_cases hj : j ∈ own
  · exact absurd z (wipeE_none hj _)
  · rw [wipeE_out hj] at z
    exact (p.lk j hj).2 d z
theorem wipe_idem {own : List Nat} : L2.wipe (L2.wipe σ own) own = L2.wipe σ own := by
  have gen : ∀ (A : List Nat) (ρ : L2.St), (∀ i ∈ A, ∀ v, ρ[i]? ≠ some (some v)) → L2.wipe ρ A = ρ := by
    intro A
    induction A with
    | nil => intro ρ _; rfl
    | cons x A ih =>
      intro ρ n
      unfold L2.wipe
      rw [ih ρ fun i hi => n i (List.mem_cons_of_mem _ hi)]
      apply List.ext_getElem (by simp)
      intro k h1 h2
      by_cases z : x = k
      · subst z
        rw [List.getElem_set_self]
        cases q : ρ[x] with
        | none => rfl
        | some md => exact absurd (by rw [List.getElem?_eq_getElem h2, q]) (n x (by simp) md)
      · simp [z]
  refine gen own _ fun i hi v z => ?_
  obtain ⟨_, h⟩ := wipe_some z
  exact h hi
end
end T6

namespace T6
open PySem PySem.Spec PyProof.Rows L2
variable [Tbl]
section
variable {K : PySem.W.Frag} {C : Cs} {mg : Str → Option Value} {X : Cx} {W : WX} {a b e : Expr} {H H' H1 H2 : Hp} {O O' O1 O2 S S' S1 S2 L : Ps} {P P' : Nat → Prop} {σ τ : L2.St} {ev ev1 ev2 : Ev} {pos : Pos} {rs rs1 rs2 : List MD} {vs vs1 vs2 : List V} {es : List En}
theorem wipe_at : ∀ {own : List Nat} {σ : L2.St} {j : Nat}, j ∈ own → j < σ.length → (L2.wipe σ own)[j]? = some none
  | v :: own, σ, j, h, l => by
    unfold L2.wipe
    by_cases e : v = j
    · subst e
      rw [List.getElem?_set_self (by rw [wipe_length]; exact l)]
    · rw [List.getElem?_set_ne e]
      rcases List.mem_cons.mp h with z | z
      · exact absurd z.symm e
      · exact wipe_at z l
theorem wipe_eq {own : List Nat} {σ τ : L2.St} (hl : τ.length = σ.length) (h : ∀ j, j ∉ own → τ[j]? = σ[j]?) : L2.wipe τ own = L2.wipe σ own := by
  apply List.ext_getElem?
  intro j
  by_cases hj : j ∈ own
  · by_cases l : j < σ.length
    · rw [wipe_at hj (by omega), wipe_at hj l]
    · rw [List.getElem?_eq_none (by rw [wipe_length]; omega), List.getElem?_eq_none (by rw [wipe_length]; omega)]
  · rw [wipe_out hj, wipe_out hj]
    exact h j hj
theorem lc_weak {nm : Bool} {src : Ev → Rs (List (List MD))} {tgs own : List Nat} {test : Ev → Rs Bool} {elt : Ev → Rs MD} {g : TG} (tk : TgOk C K nm (fun j => j ∉ own) tgs g) :
    ∀ σ H Q, tE C mg W (lcM src tgs own test elt) σ H Q → tLc (tI C K mg W nm src) g (tBM C mg W0 test) (tE C mg W0 elt) own σ H Q := fun σ H Q => by
  rintro ⟨ev, O, S, L, ft, gd, k⟩
  refine ⟨ev, O, S, L, ft, gd, aft_bind k fun items ev1 k1 J H1 O1 S1 p so D hD => ?_⟩
  cases hr : lcG tgs own test elt items (.dp, .lst []) (wipeE own ev1) with
  | ex c q ev2 => rw [hr] at k1; exact k1.elim
  | no => rw [hr] at k1; exact k1.elim
  | ok r ev2 =>
  rw [hr] at k1
  have k1 : ∀ v H' O' S', Pst C L (fun _ => True) σ ev O S H [r] (restE own ev1 (wipeE own ev2)) [v] σ O' S' H' → Q v H' := k1
  obtain ⟨Xs, pp, ff, back⟩ := wipe_fit (vs := own) p.fit
  have gp : Good C H1 O1 S1 L (ents (wipeE own ev1) (L2.wipe σ own) ++ Xs) := p.good.perm (pp.trans List.perm_append_comm)
  obtain ⟨OW, OX, gW, gX, mW, dW⟩ := gp.parts
  generalize hσw : L2.wipe σ own = σw at *
  have hid : L2.wipe σw own = σw := by rw [← hσw]; exact wipe_idem
  obtain ⟨⟨O0, p0⟩, _⟩ := (Pst.refl (P := fun _ => True) ff gW).newD rfl hD
  have p0 : Pst C L (fun _ => True) σw (wipeE own ev1) OW S1 H1 [(Md.dp, .lst [])] (wipeE own ev1) [.ref D] σw O0 S1 (upd H1 D (.lst [])) := p0
  let Pv : Nat → Hp → Prop := fun i H' => ∃ acc ev' O' S', Pst C L (fun _ => True) σw (wipeE own ev1) OW S1 H1 [acc] ev' [.ref D] σw O' S' H' ∧ lcG tgs own test elt (items.drop i) acc ev' = .ok r ev2
  refine ⟨fun i m H' => m = items.length - i ∧ i ≤ items.length ∧ Pv i H', ⟨items.length, by simp, Nat.zero_le _, _, _, O0, S1, p0, by simpa using hr⟩, ?_⟩
  rintro i m H2 ⟨rfl, hi, acc, ev3, O3, S3, p3, hg⟩
  have rc : Rch L H1 S1 H2 S3 := p3.go.rch gW
  by_cases hlt : i < items.length
  · refine .inr ⟨so.go i H2 S3 hlt rc, Pv (i + 1), fun H' pv => ⟨items.length - (i + 1), by omega, rfl, hlt, pv⟩, fun x H4 y => ?_⟩
    rw [List.drop_eq_getElem_cons hlt] at hg
    obtain ⟨hH, it⟩ := so.yld i items[i] x H2 S3 H4 (by simp [hlt]) rc y
    simp only [lcG] at hg
    split at hg
    rotate_left
    · cases hg
    rename_i hc
    -- behind the item
    have p4 : Pst C L (fun _ => True) σw (wipeE own ev1) OW S1 H1 [acc] ev3 [.ref D] σw O3 S3 H4 := by
      rcases hH with rfl | ⟨T, u, hT, rfl⟩
      · exact p3
      · exact ⟨p3.fit, p3.lk, rfl, p3.nl, p3.good.laid hT, p3.go.trans (Go.laid hT)⟩
    obtain ⟨OE, gE, nx⟩ := p4.next
    refine tk x items[i] σw ev3 OE S3 L H4 _ p4.fit gE it hc.1 hc.2 fun τ O5 p5 => ?_
    have hw : L2.wipe τ own = L2.wipe σw own := wipe_eq (by rw [← p5.fit.length, asgn_len, p4.fit.length]) fun j hj => (p5.lk j hj).1
    rw [hid] at hw
    refine ⟨hw, asgn tgs items[i] ev3, O5, S3, L, p5.fit, p5.good, ?_⟩
    -- a turn's end without a new thing
    have fin0 : ∀ {ev5 O6 S6 H6}, Pst C L (fun _ => True) τ (asgn tgs items[i] ev3) O5 S3 H4 [] ev5 [] τ O6 S6 H6 → lcG tgs own test elt (items.drop (i + 1)) acc (wipeE own ev5) = .ok r ev2 → Pv (i + 1) H6 := fun {ev5 O6 S6 H6} p6 e => by
      have p7 := p5.trans0 (p6.all (P := fun j => j ∉ own))
      obtain ⟨O8, p8⟩ := p7.wipe (by rw [hw, hid]) hid
      obtain ⟨O9, p9⟩ := nx _ _ _ _ _ _ _ p8
      exact ⟨acc, _, O9, S6, p9, e⟩
    cases ht : test (asgn tgs items[i] ev3) with
    | ex c q ev5 => rw [ht] at hg; cases hg
    | no => rw [ht] at hg; cases hg
    | ok b ev5 =>
      rw [ht] at hg
      intro H6 O6 S6 p6
      cases b with
      | false => exact iteF (fin0 p6 hg)
      | true =>
        refine iteT ⟨ev5, O6, S6, L, p6.fit, p6.good, ?_⟩
        dsimp only at hg
        cases hel : elt ev5 with
        | ex c q ev7 => rw [hel] at hg; cases hg
        | no => rw [hel] at hg; cases hg
        | ok z ev7 =>
          rw [hel] at hg
          dsimp only at hg
          intro v H7 O7 S7 p7
          cases hap : appM acc z with
          | none => rw [hap] at hg; cases hg
          | some acc' =>
            rw [hap] at hg
            dsimp only at hg
            have p8 := p5.trans0 ((p6.trans0 p7).all (P := fun j => j ∉ own))
            obtain ⟨O8, p9⟩ := p8.wipe (by rw [hw, hid]) hid
            obtain ⟨O9, p10⟩ := nx _ _ _ _ _ _ _ p9
            obtain ⟨ws, O10, S10, hD2, hz, g10, go10⟩ := Good.app (a := D) (v := v) (l := acc) (r := z) (es := ents (wipeE own ev7) σw) p10.good (p10.nl z (by simp)) hap
            refine ⟨ws, hD2, hz, acc', _, O10, S10, ⟨p10.fit, p10.lk, rfl, ?_, g10, p10.go.trans go10⟩, hg⟩
            intro x hx
            have e : x = acc' := by simpa using hx
            subst e
            unfold appM at hap
            split at hap
            · split at hap
              · split at hap
                · simp only [Option.some.injEq] at hap
                  subst hap
                  dsimp only
                  split <;> (intro h; cases h)
                · simp only [Option.some.injEq] at hap
                  subst hap
                  intro h; cases h
                · cases hap
              · cases hap
            · cases hap
  · have e : i = items.length := by omega
    subst e
    refine .inl ⟨so.stop H2 S3 rc, ?_⟩
    rw [List.drop_length] at hg
    have e2 : acc = r ∧ ev3 = ev2 := by
      simp only [lcG] at hg
      cases hg
      exact ⟨rfl, rfl⟩
    obtain ⟨rfl, rfl⟩ := e2
    -- the names of the block are as they were
    obtain ⟨O4, p4⟩ := (p3.all (P := fun j => j ∉ own)).wipe (by rw [hid]) hid
    obtain ⟨c1, c2⟩ := back _ p4.fit fun i hi => wipeE_none hi
    obtain ⟨G, g⟩ := gW.frame gX dW p4.good p4.go
    refine k1 _ H2 (fun a => O4 a ∨ OX a) S3 ⟨c1, fun j _ => ⟨rfl, fun d z => ?_⟩, rfl, p4.nl, ?_, ?_⟩
    · rcases restE_get (fun i hi => wipeE_none hi) z with ⟨_, z⟩ | ⟨hj, z⟩
      · exact (p.lk j trivial).2 d z
      · have := (p4.lk j trivial).2 d z
        rw [wipeE_out hj] at this
        exact (p.lk j trivial).2 d this
    · refine G.perm ?_
      rw [List.append_assoc]
      exact List.Perm.append_left _ (List.perm_append_comm.trans c2.symm)
    · exact p.go.trans ⟨fun a o h n => g.keep a o h fun z => n ((mW a).mpr z), g.code, g.live, fun a h => (g.newO a h).imp (mW a).mpr id, g.monS, fun a h => (g.newS a h).imp id fun z => z.imp (mW a).mpr id⟩
theorem pts_yes : ∀ {ifs : List Expr} {Y : Cx}, ifs = [] → PTs Y ifs (tBM C mg W0 tYesM) := fun {ifs Y} h => by
  subst h
  refine ⟨fun pins s σ H Q I h => ?_⟩
  obtain ⟨ev, O, S, L, ft, gd, k⟩ := h
  exact pts_nil.run pins s σ H Q I (show tYes σ H Q from k H O S (.refl ft gd))
section
variable {elt tg iter : Expr} {ifs : List Expr} {scope : Scope} {own : List (Str × Nat)} {nm : Bool} {src : Ev → Rs (List (List MD))} {tgs : List Nat} {test : Ev → Rs Bool} {el : Ev → Rs MD} {g : TG}
theorem r_lc (hc : X.calm = true) (hN : X.N.Nodup) (hi : PI X tg iter (tI C X.K mg W nm src)) (ok : BlkOk X.N X.env.scope scope own) (tk : TgOk C X.K nm (fun j => j ∉ own.map (·.2)) tgs g)
    (hg : ∀ (s : Shared) (H : Hp) (A : Addr) (cl : List (Str × Addr)) (fp : List Addr), PG (X.blk s H scope (compEnvC scope cl A X.env) fp) tg g)
    (ht : ∀ (s : Shared) (H : Hp) (A : Addr) (cl : List (Str × Addr)) (fp : List Addr), PTs (X.blk s H scope (compEnvC scope cl A X.env) fp) ifs (tBM C mg W0 test))
    (he : ∀ (s : Shared) (H : Hp) (A : Addr) (cl : List (Str × Addr)) (fp : List Addr), PE (X.blk s H scope (compEnvC scope cl A X.env) fp) elt (tE C mg W0 el)) (hs : ∀ x, foldedSetIterable iter X.env x = pure x := by intro _; rfl) :
    PE X (.ListComp elt [⟨tg, iter, ifs, 0⟩] scope pos) (tE C mg W (lcM src tgs (own.map (·.2)) test el)) := pe_weak (pe_lc hc hN hi ok hg ht he hs) (lc_weak tk)
theorem s_setLc {i : Nat} {y : Str} {py spos : Pos} (hP : ¬ P i) (hc : X.calm = true) (hN : X.N.Nodup) (hy : X.N[i]? = some y) (hyl : X.env.scope.names.lookup y = some .local)
    (hsw : swapsWith (.ListComp elt [⟨tg, iter, ifs, 0⟩] scope pos) (some (.Name y py)) spos.line X.env = pure true) (hi : PI X tg iter (tI C X.K mg W nm src)) (ok : BlkOk X.N X.env.scope scope own) (tk : TgOk C X.K nm (fun j => j ∉ own.map (·.2)) tgs g)
    (hg : ∀ (s : Shared) (H : Hp) (A : Addr) (cl : List (Str × Addr)) (fp : List Addr), PG (X.blk s H scope (compEnvC scope cl A X.env) fp) tg g)
    (ht : ∀ (s : Shared) (H : Hp) (A : Addr) (cl : List (Str × Addr)) (fp : List Addr), PTs (X.blk s H scope (compEnvC scope cl A X.env) fp) ifs (tBM C mg W0 test))
    (he : ∀ (s : Shared) (H : Hp) (A : Addr) (cl : List (Str × Addr)) (fp : List Addr), PE (X.blk s H scope (compEnvC scope cl A X.env) fp) elt (tE C mg W0 el)) (hs : ∀ x, foldedSetIterable iter X.env x = pure x := by intro _; rfl) :
    PS X (.Assign [.Name y py] (.ListComp elt [⟨tg, iter, ifs, 0⟩] scope pos) spos) (tS C mg P W (setS i (lcM src tgs (own.map (·.2)) test el))) := ps_weak (ps_setLc hc hN hy hyl hsw hi ok hg ht he hs) fun D σ H => by
  rintro ⟨ev, O, S, L, ft, gd, k⟩
  refine lc_weak tk σ H (fun x H1 => gName i x σ H1 D.nx) ⟨ev, O, S, L, ft, gd, aftS_bind k fun r ev1 k1 v H' O' S' p => ?_⟩
  split at k1
  · rename_i hl
    obtain ⟨O2, q⟩ := (p.all (P := P)).store hl hP
    exact k1 _ O2 S' H' q
  · exact k1.elim
end
end
end T6

namespace T6
open PySem PySem.Spec PyProof.Rows L2
variable [Tbl]
/-- what is done with the arguments' values -/
def kF1 (g : D → Option D) : List Ag → Ev → Rs MD := fun as ev => match as with
  | [.vl _ a] => match g a with
    | some z => .ok (.dp, z) ev
    | none => .no
  | _ => .no
def kF2 (g : D → D → Option D) : List Ag → Ev → Rs MD := fun as ev => match as with
  | [.vl _ a, .vl _ b] => match g a b with
    | some z => .ok (.dp, z) ev
    | none => .no
  | _ => .no
def seqD : D → Option (List D)
  | .lst ds => some ds
  | .tup ds => some ds
  | _ => none
def kidM (s : Bool) (x : D) (ev : Ev) : Rs MD := if flat x = true then .ok (.dp, x) ev else if s = true then .ok (.sh, x) ev else .no
def kIx : List Ag → Ev → Rs MD := fun as ev => match as with
  | [.vl s d, .vl _ (.int i)] => match seqD d with
    | some ds => match atI ds i with
      | some x => kidM s x ev
      | none => .no
    | none => .no
  | _ => .no
/-- a new list of old things -/
def newL (s : Bool) (ds : List D) (ev : Ev) : Rs MD := if flats ds = true then .ok (.dp, .lst ds) ev else if s = true then .ok (.rt, .lst ds) ev else .no
def newT (s : Bool) (ds : List D) (ev : Ev) : Rs MD := if flats ds = true then .ok (.dp, .tup ds) ev else if s = true then .ok (.sh, .tup ds) ev else .no
def kL1 (g : D → Option (List D)) : List Ag → Ev → Rs MD := fun as ev => match as with
  | [.vl s a] => match g a with
    | some ds => newL s ds ev
    | none => .no
  | _ => .no
/-- a sum, of what kind it may be -/
def kAdd : List Ag → Ev → Rs MD := fun as ev => match as with
  | [.vl s (.lst xs), .vl t (.lst ys)] => if xs.length + ys.length ≤ sizeLine then newL (s && t) (xs ++ ys) ev else .no
  | [.vl s (.tup xs), .vl t (.tup ys)] => if xs.length + ys.length ≤ sizeLine then newT (s && t) (xs ++ ys) ev else .no
  | [.vl _ a, .vl _ b] => match gAdd a b with
    | some z => .ok (.dp, z) ev
    | none => .no
  | _ => .no
def valsA : List Ag → Option (Bool × List D)
  | [] => some (true, [])
  | .vl s d :: as => match valsA as with
    | some (t, ds) => some (s && t, d :: ds)
    | none => none
  | _ => none
/-- a tuple that is looked at, not kept -/
def aTup {α : Type} (B : Arp α) (A : Arp α) : Arp α := fun k ev => B (fun as ev1 => match valsA as with
  | some (s, ds) => if ds.length ≤ sizeLine then A (fun as' => k (.vl s (.tup ds) :: as')) ev1 else .no
  | none => .no) ev
/-- the same as a value -/
def opA (k : List Ag → Ev → Rs MD) (A : Arp MD) : Ev → Rs MD := fun ev => A k ev

section
variable {K : PySem.W.Frag} {C : Cs} {mg : Str → Option Value} {X : Cx} {W : WX} {a b e : Expr} {es : List Expr} {H H' H1 H2 : Hp} {O O' O1 O2 S S' S1 S2 L : Ps} {P P' : Nat → Prop} {σ τ : L2.St} {ev ev1 ev2 : Ev} {pos : Pos} {rs rs1 rs2 : List MD} {vs vs1 vs2 : List V}
/-- what the rule of an operation asks for -/
def KOk (C : Cs) (r : RL) (k : List Ag → Ev → Rs MD) : Prop := ∀ (mg : Str → Option Value) (W : WX) (σ : L2.St) (ev : Ev) (O S L : Ps) (H : Hp) (as : List Ag) (vs tvs : List V) (trs : List MD) (ev2 : Ev) (O2 S2 : Ps) (H2 : Hp) (Q : VK),
  Pst C L (fun _ => True) σ ev O S H trs ev2 tvs σ O2 S2 H2 → ArgR C H2 S2 L σ as vs tvs trs →
  Aft C mg σ ev O S L H W (k as ev2) (fun r ev' => ∀ v H' O' S', Pst C L (fun _ => True) σ ev O S H [r] ev' [v] σ O' S' H' → Q v H') → r vs H2 Q
theorem cb_weak {r : RL} {k : List Ag → Ev → Rs MD} (h : KOk C r k) {A : Arp MD} : ∀ σ H Q, tE C mg W (opA k A) σ H Q → tCB r (tAC C mg W A) σ H Q := fun σ H Q => by
  rintro ⟨ev, O, S, L, ft, gd, af⟩
  exact ⟨k, _, ev, O, S, H, L, [], [], ev, O, S, .refl ft gd, af, fun as vs tvs trs ev2 O2 S2 H2 p _ ar af2 => h mg W σ ev O S L H as vs tvs trs ev2 O2 S2 H2 Q (by simpa using p) ar af2⟩
theorem nil_w {α : Type} : ∀ σ H Q, tAC C mg W (aNil (α := α)) σ H Q → tNil σ H Q := fun σ H Q => by
  rintro ⟨k, R, ev0, O0, S0, H0, L, rs0, vs0, ev1, O1, S1, p, af, fin⟩
  exact fin [] [] [] [] ev1 O1 S1 H (by simpa using p) .refl .nil af
def l2of (r : R2) : RL := fun vs H Q => ∃ x y, vs = [x, y] ∧ r x y H Q
def l1of (r : V → Hp → VK → Prop) : RL := fun vs H Q => ∃ x, vs = [x] ∧ r x H Q
theorem op_weak {r : R2} {t1 t2 : TE} {k : List Ag → Ev → Rs MD} {F1 F2 : ∀ {α : Type}, Arp α → Arp α} (h : KOk C (l2of r) k) (w1 : OpdW C mg W t1 F1) (w2 : OpdW C mg W t2 F2) : ∀ σ H Q, tE C mg W (opA k (F1 (F2 aNil))) σ H Q → tOp r t1 t2 σ H Q := fun σ H Q z => by
  have z1 := cb_weak h σ H Q z
  have z2 := w1 MD (F2 aNil) (tCons t2 tNil) (w2 MD aNil tNil nil_w) σ H _ z1
  have mono : ∀ {t : TE}, t = t1 → True := fun _ => trivial
  have e : tCons t1 (tCons t2 tNil) σ H (fun vs H1 => l2of r vs H1 Q) = tOp r t1 t2 σ H Q := by
    show t1 σ H (fun x H1 => t2 σ H1 fun y H2 => l2of r [x, y] H2 Q) = t1 σ H fun x H1 => t2 σ H1 fun y H2 => r x y H2 Q
    congr 1
    funext x H1
    congr 1
    funext y H2
    apply propext
    constructor
    · rintro ⟨x', y', e, q⟩; cases e; exact q
    · exact fun q => ⟨x, y, rfl, q⟩
  exact e ▸ z2
theorem un_weak {r : V → Hp → VK → Prop} {t1 : TE} {k : List Ag → Ev → Rs MD} {F1 : ∀ {α : Type}, Arp α → Arp α} (h : KOk C (l1of r) k) (w1 : OpdW C mg W t1 F1) : ∀ σ H Q, tE C mg W (opA k (F1 aNil)) σ H Q → tUn r t1 σ H Q := fun σ H Q z => by
  have z1 := cb_weak h σ H Q z
  have z2 := w1 MD aNil tNil nil_w σ H _ z1
  have e : tCons t1 tNil σ H (fun vs H1 => l1of r vs H1 Q) = tUn r t1 σ H Q := by
    show t1 σ H (fun x H1 => l1of r [x] H1 Q) = t1 σ H fun x H1 => r x H1 Q
    congr 1
    funext x H1
    apply propext
    constructor
    · rintro ⟨x', e, q⟩; cases e; exact q
    · exact fun q => ⟨x, rfl, q⟩
  exact e ▸ z2
/-! ### flat results -/
theorem argR_vals2 {s t : Bool} {d d2 : D} {tvs : List V} {trs : List MD} (ar : ArgR C H S L σ [.vl s d, .vl t d2] vs tvs trs) : ∃ x y fp fq, vs = [x, y] ∧ tvs = [] ∧ trs = [] ∧ Rep C H d x fp ∧ Rep C H d2 y fq ∧ (∀ a ∈ fp, L a ∨ S a) ∧ (∀ a ∈ fq, L a ∨ S a) ∧ (s = true → ∀ a ∈ fp, S a) ∧ (t = true → ∀ a ∈ fq, S a) := by
  cases ar with
  | vl r s1 t1 ar' => cases ar' with
    | vl r' s' t' ar2 => cases ar2; exact ⟨_, _, _, _, rfl, rfl, rfl, r, r', s1, s', t1, t'⟩
theorem argR_vals1 {s : Bool} {d : D} {tvs : List V} {trs : List MD} (ar : ArgR C H S L σ [.vl s d] vs tvs trs) : ∃ x fp, vs = [x] ∧ tvs = [] ∧ trs = [] ∧ Rep C H d x fp ∧ (∀ a ∈ fp, L a ∨ S a) ∧ (s = true → ∀ a ∈ fp, S a) := by
  cases ar with
  | vl r s1 t1 ar' => cases ar'; exact ⟨_, _, rfl, rfl, rfl, r, s1, t1⟩
theorem k_f2 {r : R2} {g : D → D → Option D} (pr : Pr2 C r g) : KOk C (l2of r) (kF2 g) := fun mg W σ ev O S L H as vs tvs trs ev2 O2 S2 H2 Q p ar af => by
  unfold kF2 at af
  split at af
  · rename_i s a t b
    obtain ⟨x, y, fp, fq, rfl, rfl, rfl, r1, r2, _⟩ := argR_vals2 ar
    split at af
    · rename_i z hz
      refine ⟨x, y, rfl, pr H2 x y _ _ z fp fq Q r1 r2 hz fun v fl rv => ?_⟩
      obtain ⟨O4, p4⟩ := p.flat fl rv
      exact af v H2 O4 S2 p4
    · exact af.elim
  · exact af.elim
theorem k_f1 {r : RL} {g : D → Option D} (pr : PrL1 C r g) : KOk C r (kF1 g) := fun mg W σ ev O S L H as vs tvs trs ev2 O2 S2 H2 Q p ar af => by
  unfold kF1 at af
  split at af
  · rename_i s a
    obtain ⟨x, fp, rfl, rfl, rfl, r1, _⟩ := argR_vals1 ar
    split at af
    · rename_i z hz
      exact pr H2 x _ z fp Q r1 hz fun v fl rv => by
        obtain ⟨O4, p4⟩ := p.flat fl rv
        exact af v H2 O4 S2 p4
    · exact af.elim
  · exact af.elim
theorem k_f2l {r : RL} {g : D → D → Option D} (pr : PrL2 C r g) : KOk C r (kF2 g) := fun mg W σ ev O S L H as vs tvs trs ev2 O2 S2 H2 Q p ar af => by
  unfold kF2 at af
  split at af
  · rename_i s a t b
    obtain ⟨x, y, fp, fq, rfl, rfl, rfl, r1, r2, _⟩ := argR_vals2 ar
    split at af
    · rename_i z hz
      exact pr H2 x y _ _ z fp fq Q r1 r2 hz fun v fl rv => by
        obtain ⟨O4, p4⟩ := p.flat fl rv
        exact af v H2 O4 S2 p4
    · exact af.elim
  · exact af.elim
theorem k_un {r : V → Hp → VK → Prop} {g : D → Option D} (pr : Pr1 C r g) : KOk C (l1of r) (kF1 g) := fun mg W σ ev O S L H as vs tvs trs ev2 O2 S2 H2 Q p ar af => by
  unfold kF1 at af
  split at af
  · rename_i s a
    obtain ⟨x, fp, rfl, rfl, rfl, r1, _⟩ := argR_vals1 ar
    split at af
    · rename_i z hz
      exact ⟨x, rfl, pr H2 x _ z fp Q r1 hz fun v fl rv => by
        obtain ⟨O4, p4⟩ := p.flat fl rv
        exact af v H2 O4 S2 p4⟩
    · exact af.elim
  · exact af.elim
/-! ### a part -/
theorem Pst.same {d : D} {v : V} {fp : List Addr} (p : Pst C L P σ ev O S H [] ev1 [] τ O1 S1 H1) (r : Rep C H1 d v fp) (h : ∀ a ∈ fp, S1 a) : Pst C L P σ ev O S H [(Md.sh, d)] ev1 [v] τ O1 S1 H1 :=
  ⟨p.fit, p.lk, rfl, by simp, p.good.dup0 r h, p.go⟩
theorem kid_ok {s : Bool} {x : D} {v : V} {fp : List Addr} {k : MD → Ev → Prop} (p : Pst C L (fun _ => True) σ ev O S H [] ev2 [] σ O2 S2 H2) (r : Rep C H2 x v fp) (t : s = true → ∀ a ∈ fp, S2 a) (af : Aft C mg σ ev O S L H W (kidM s x ev2) k) :
    ∃ r O', k r ev2 ∧ Pst C L (fun _ => True) σ ev O S H [r] ev2 [v] σ O' S2 H2 := by
  unfold kidM at af
  split at af
  · rename_i fl
    obtain ⟨O4, p4⟩ := p.flat fl r
    exact ⟨_, O4, af, p4⟩
  · split at af
    · rename_i hs
      exact ⟨_, O2, af, p.same r (t hs)⟩
    · exact af.elim
theorem seqD_rep {d : D} {ds : List D} {x : V} {fp : List Addr} (h : seqD d = some ds) (r : Rep (KL K) H d x fp) : ∃ a xs f1, x = .ref a ∧ (SqL K H a xs ∧ d = .lst ds ∨ SqT K H a xs ∧ d = .tup ds) ∧ Reps (KL K) H ds xs f1 ∧ ∀ b ∈ f1, b ∈ fp := by
  cases d with
  | lst es =>
    cases h
    obtain ⟨a, xs, f1, rfl, rr, q⟩ := r
    refine ⟨a, xs, f1, rfl, .inl ⟨sq_of q, rfl⟩, rr, fun b hb => ?_⟩
    rcases q with ⟨_, e⟩ | ⟨_, e⟩
    · rw [e]; exact List.mem_cons_of_mem _ hb
    · rw [e]; exact hb
  | tup es =>
    cases h
    obtain ⟨a, xs, rfl, q, rr⟩ := r
    exact ⟨a, xs, fp, rfl, .inr ⟨.inl q, rfl⟩, rr, fun b hb => hb⟩
  | _ => cases h
theorem k_ix : KOk (KL K) (l2of (rIx K)) kIx := fun mg W σ ev O S L H as vs tvs trs ev2 O2 S2 H2 Q p ar af => by
  unfold kIx at af
  split at af
  · rename_i s d t i
    obtain ⟨x, y, fp, fq, rfl, rfl, rfl, r1, r2, s1, _, t1, _⟩ := argR_vals2 ar
    split at af
    · rename_i ds hd
      split at af
      · rename_i z hz
        obtain ⟨a, xs, f1, rfl, sq, rr, sub⟩ := seqD_rep hd r1
        obtain ⟨j, hj, hx⟩ := atI_len (ys := xs) rr.length hz
        obtain ⟨v, f, e3, r3, s3⟩ := rr.get hj
        obtain ⟨r4, O4, k4, p4⟩ := kid_ok p r3 (fun z a ha => t1 z a (sub a (s3 a ha))) af
        refine ⟨_, _, rfl, ?_⟩
        rcases sq with ⟨sq, _⟩ | ⟨sq, _⟩
        · exact .inl ⟨a, xs, i, v, rfl, rp_int r2, sq, hx v e3, k4 v H2 O4 S2 p4⟩
        · exact .inr (.inl ⟨a, xs, i, v, rfl, rp_int r2, sq, hx v e3, k4 v H2 O4 S2 p4⟩)
      · exact af.elim
    · exact af.elim
  · exact af.elim
end
end T6

namespace T6
open PySem PySem.Spec PyProof.Rows L2
variable [Tbl]
def cutD (ds : List D) (lo hi : Option Int) : List D := (ds.drop (HT.sIx ds.length 0 lo)).take (HT.sIx ds.length ds.length hi - HT.sIx ds.length 0 lo)
def kSlG (lo hi : Option Int) (s : Bool) (d : D) (ev : Ev) : Rs MD := match d with
  | .lst ds => newL s (cutD ds lo hi) ev
  | .tup ds => if HT.sIx ds.length 0 lo = 0 ∧ HT.sIx ds.length ds.length hi = ds.length then kidM s (.tup ds) ev else newT s (cutD ds lo hi) ev
  | _ => .no
def kSlA : List Ag → Ev → Rs MD := fun as ev => match as with
  | [.vl s d, .vl _ (.int i)] => kSlG (some i) none s d ev
  | _ => .no
def kSlB : List Ag → Ev → Rs MD := fun as ev => match as with
  | [.vl s d, .vl _ (.int i)] => kSlG none (some i) s d ev
  | _ => .no
def kSlC : List Ag → Ev → Rs MD := fun as ev => match as with
  | [.vl s d, .vl _ (.int i), .vl _ (.int j)] => kSlG (some i) (some j) s d ev
  | _ => .no
def gRev : D → Option (List D)
  | .lst ds => some ds.reverse
  | _ => none
def gSorted : D → Option (List D)
  | .lst ds => (intsOf ds).map fun ns => (ns.mergeSort (fun a b => decide (a ≤ b))).map D.int
  | _ => none
section
variable {K : PySem.W.Frag} {C : Cs} {mg : Str → Option Value} {X : Cx} {W : WX} {a b e : Expr} {es : List Expr} {H H' H1 H2 : Hp} {O O' O1 O2 S S' S1 S2 L : Ps} {P P' : Nat → Prop} {σ τ : L2.St} {ev ev1 ev2 : Ev} {pos : Pos} {rs rs1 rs2 : List MD} {vs vs1 vs2 : List V}
/-- old things as results -/
theorem Pst.kids : ∀ {ds : List D} {xs : List V} {fp : List Addr} {O1 : Ps}, Pst C L P σ ev O S H [] ev1 [] τ O1 S1 H1 → Reps C H1 ds xs fp → (∀ a ∈ fp, S1 a) → ∃ O', Pst C L P σ ev O S H (ds.map (childM .sh)) ev1 xs τ O' S1 H1
  | [], xs, fp, O1, p, r, h => by cases (show xs = [] ∧ fp = [] from r).1; exact ⟨O1, p⟩
  | d :: ds, xs, fp, O1, p, r, h => by
    obtain ⟨v, vs, f1, f2, rfl, rfl, r1, r2⟩ := r
    obtain ⟨O2, q⟩ := Pst.kids p r2 fun a ha => h a (List.mem_append_right _ ha)
    have hh : ∃ O', Good C H1 O' S1 L ((v, childM .sh d) :: (vs.zip (ds.map (childM .sh)) ++ ents ev1 τ)) ∧ ∀ a, O' a → O2 a := by
      unfold childM
      split
      · rename_i fl
        exact ⟨O2, q.good.flat fl r1, fun _ h => h⟩
      · exact ⟨O2, q.good.dup0 r1 fun a ha => h a (List.mem_append_left _ ha), fun _ h => h⟩
    obtain ⟨O3, g3, le⟩ := hh
    refine ⟨O3, q.fit, q.lk, by simpa using q.len, fun r hr => ?_, g3, q.go.less le⟩
    rcases List.mem_cons.mp hr with z | z
    · rw [z]
      unfold childM
      split <;> simp
    · exact q.nl r z
theorem allD_kids : ∀ ds : List D, allD (ds.map (childM .sh)) = flats ds
  | [] => rfl
  | d :: ds => by
    show (((childM .sh d).1 == Md.dp || flat (childM .sh d).2) && allD (ds.map (childM .sh))) = (flat d && flats ds)
    rw [allD_kids ds]
    unfold childM
    cases h : flat d <;> simp [h] <;> rfl
theorem kids_map (ds : List D) : (ds.map (childM .sh)).map (·.2) = ds := by
  rw [List.map_map]
  conv => rhs; rw [← List.map_id ds]
  refine List.map_congr_left fun d _ => ?_
  show (childM .sh d).2 = d
  unfold childM
  split <;> rfl
theorem newL_ok {s : Bool} {ds : List D} {xs : List V} {fp : List Addr} {k : MD → Ev → Prop} (p : Pst C L (fun _ => True) σ ev O S H [] ev2 [] σ O2 S2 H2) (r : Reps C H2 ds xs fp) (t : s = true → ∀ a ∈ fp, S2 a) (af : Aft C mg σ ev O S L H W (newL s ds ev2) k) :
    ∃ r, k r ev2 ∧ ∀ q, H2 q = none → ∃ O' S', Pst C L (fun _ => True) σ ev O S H [r] ev2 [.ref q] σ O' S' (upd H2 q (.lst xs)) := by
  unfold newL at af
  split at af
  · rename_i fl
    refine ⟨_, af, fun q hq => ?_⟩
    obtain ⟨O3, p3⟩ := p.kids (reps_flat0 fl r) (by simp)
    obtain ⟨O4, p4⟩ := (p3.newD (by rw [allD_kids]; exact fl) hq).1
    rw [kids_map] at p4
    exact ⟨O4, S2, p4⟩
  · split at af
    · rename_i hs
      refine ⟨_, af, fun q hq => ?_⟩
      obtain ⟨O3, p3⟩ := p.kids r (t hs)
      obtain ⟨O4, S4, p4⟩ := (p3.newS hq).1
      rw [kids_map] at p4
      exact ⟨O4, S4, p4⟩
    · exact af.elim
theorem newT_ok {s : Bool} {ds : List D} {xs : List V} {fp : List Addr} {k : MD → Ev → Prop} (p : Pst C L (fun _ => True) σ ev O S H [] ev2 [] σ O2 S2 H2) (r : Reps C H2 ds xs fp) (t : s = true → ∀ a ∈ fp, S2 a) (af : Aft C mg σ ev O S L H W (newT s ds ev2) k) :
    ∃ r, k r ev2 ∧ (∀ q, H2 q = none → ∃ O' S', Pst C L (fun _ => True) σ ev O S H [r] ev2 [.ref q] σ O' S' (upd H2 q (.tup xs))) ∧ ∀ q, Rd H2 q (.tup xs) → ∃ O' S', Pst C L (fun _ => True) σ ev O S H [r] ev2 [.ref q] σ O' S' H2 := by
  unfold newT at af
  split at af
  · rename_i fl
    have r0 := reps_flat0 fl r
    refine ⟨_, af, fun q hq => ?_, fun q hq => ?_⟩
    · obtain ⟨O3, p3⟩ := p.kids r0 (by simp)
      obtain ⟨O4, p4⟩ := (p3.newD (by rw [allD_kids]; exact fl) hq).2
      rw [kids_map] at p4
      exact ⟨O4, S2, p4⟩
    · obtain ⟨O4, p4⟩ := p.flat (d := .tup ds) (v := .ref q) (f := []) fl ⟨q, xs, rfl, hq, r0⟩
      exact ⟨O4, S2, p4⟩
  · split at af
    · rename_i hs
      refine ⟨_, af, fun q hq => ?_, fun q hq => ⟨O2, S2, p.same (d := .tup ds) ⟨q, xs, rfl, hq, r⟩ (t hs)⟩⟩
      obtain ⟨O3, p3⟩ := p.kids r (t hs)
      obtain ⟨O4, S4, p4⟩ := (p3.newS hq).2
      rw [kids_map] at p4
      exact ⟨O4, S4, p4⟩
    · exact af.elim
/-! ### list(x), sorted(x), … -/
def PrN1 (C : Cs) (r : RL) (g : D → Option (List D)) : Prop := ∀ H x d f ds Q, Rep C H d x f → g d = some ds → (∀ xs fp, Reps C H ds xs fp → (∀ a ∈ fp, a ∈ f) → ∀ p, H p = none → Q (.ref p) (upd H p (.lst xs))) → r [x] H Q
theorem k_l1 {r : RL} {g : D → Option (List D)} (pr : PrN1 C r g) : KOk C r (kL1 g) := fun mg W σ ev O S L H as vs tvs trs ev2 O2 S2 H2 Q p ar af => by
  unfold kL1 at af
  split at af
  · rename_i s a
    obtain ⟨x, fp, rfl, rfl, rfl, r1, s1, t1⟩ := argR_vals1 ar
    split at af
    · rename_i ds hd
      refine pr H2 x _ fp ds Q r1 hd fun xs f2 rr sub q hq => ?_
      obtain ⟨r4, k4, p4⟩ := newL_ok p rr (fun z a ha => t1 z a (sub a ha)) af
      obtain ⟨O5, S5, p5⟩ := p4 q hq
      exact k4 _ _ _ _ p5
    · exact af.elim
  · exact af.elim
theorem prn_list : PrN1 (KL K) (fun xs H Q => ∃ p ys, xs = [.ref p] ∧ (SqL K H p ys ∨ SqT K H p ys) ∧ ∀ l, H l = none → Q (.ref l) (upd H l (.lst ys))) seqD := fun H x d f ds Q r h q => by
  obtain ⟨a, xs, f1, rfl, sq, rr, sub⟩ := seqD_rep h r
  exact ⟨a, xs, rfl, sq.imp (·.1) (·.1), q xs f1 rr sub⟩
theorem reps_of_ints : ∀ {ns : List Int}, Reps C H (ns.map D.int) (ns.map V.int) []
  | [] => ⟨rfl, rfl⟩
  | n :: ns => ⟨.int n, ns.map V.int, [], [], rfl, rfl, ⟨rfl, rfl⟩, reps_of_ints⟩
theorem prn_sorted : PrN1 (KL K) (rSortedI K) gSorted := fun H x d f ds Q r h q => by
  cases d with
  | lst es =>
    obtain ⟨ns, hn, rfl⟩ := Option.map_eq_some_iff.mp (show (intsOf es).map _ = some ds from h)
    obtain ⟨a, xs, f1, rfl, rr, sq⟩ := r
    have e := reps_ints rr hn
    refine ⟨a, ns, rfl, e ▸ sq_of sq, fun ns' p pm pw hp => ?_⟩
    have : ns' = ns.mergeSort (fun a b => decide (a ≤ b)) := by
      have h1 : (ns.mergeSort (fun a b => decide (a ≤ b))).Pairwise (· ≤ ·) := by
        have := List.pairwise_mergeSort (le := fun a b : Int => decide (a ≤ b)) (fun a b c h1 h2 => by simp at *; omega) (fun a b => by simp; omega) ns
        exact this.imp fun h => by simpa using h
      exact (pm.trans (List.mergeSort_perm ns _).symm).eq_of_pairwise (fun a b _ _ h1 h2 => Int.le_antisymm h1 h2) pw h1
    rw [this]
    exact q _ [] reps_of_ints (by simp) p hp
  | _ => cases h
theorem reps_rev : ∀ {ds : List D} {xs : List V} {fp : List Addr}, Reps C H ds xs fp → ∃ fq, Reps C H ds.reverse xs.reverse fq ∧ ∀ a ∈ fq, a ∈ fp
  | [], xs, fp, r => by obtain ⟨rfl, rfl⟩ : xs = [] ∧ fp = [] := r; exact ⟨[], ⟨rfl, rfl⟩, by simp⟩
  | d :: ds, xs, fp, r => by
    obtain ⟨v, vs, f1, f2, rfl, rfl, r1, r2⟩ := r
    obtain ⟨fq, r3, s3⟩ := reps_rev r2
    refine ⟨fq ++ (f1 ++ []), ?_, fun a h => ?_⟩
    · rw [List.reverse_cons, List.reverse_cons]
      exact r3.append ⟨v, [], f1, [], rfl, rfl, r1, ⟨rfl, rfl⟩⟩
    · simp only [List.append_nil, List.mem_append] at h ⊢
      exact h.elim (fun h => .inr (s3 a h)) .inl
theorem prn_rev : PrN1 (KL K) (fun xs H Q => ∃ a ys, xs = [.ref a] ∧ SqL K H a ys ∧ ∀ p, H p = none → Q (.ref p) (upd H p (.lst ys.reverse))) gRev := fun H x d f ds Q r h q => by
  cases d with
  | lst es =>
    cases h
    obtain ⟨a, xs, f1, rfl, rr, sq⟩ := r
    obtain ⟨fq, r3, s3⟩ := reps_rev rr
    refine ⟨a, xs, rfl, sq_of sq, q _ fq r3 fun b hb => ?_⟩
    rcases sq with ⟨_, e⟩ | ⟨_, e⟩
    · rw [e]; exact List.mem_cons_of_mem _ (s3 b hb)
    · rw [e]; exact s3 b hb
  | _ => cases h
end
end T6

namespace T6
open PySem PySem.SeqAt PySem.Spec PyProof.Rows L2
variable [Tbl]
def aPI {α : Type} (f : Ev → Option Pv) (A : Arp α) : Arp α := fun k ev => match f ev with
  | some pv => match pv.d with
    | .int i => A (fun as => k (.vl true (.int i) :: as)) ev
    | _ => .no
  | none => .no
section
variable {K : PySem.W.Frag} {C : Cs} {mg : Str → Option Value} {X : Cx} {W : WX} {a b e : Expr} {es : List Expr} {H H' H1 H2 : Hp} {O O' O1 O2 S S' S1 S2 L : Ps} {P P' : Nat → Prop} {σ τ : L2.St} {ev ev1 ev2 : Ev} {pos p2 : Pos} {rs rs1 rs2 : List MD} {vs vs1 vs2 : List V}
/-! ### a tuple that is looked at -/
theorem vals_ok : ∀ {as : List Ag} {s : Bool} {ds : List D} {vs tvs : List V} {trs : List MD}, valsA as = some (s, ds) → ArgR C H S L σ as vs tvs trs → ∃ fp, tvs = [] ∧ trs = [] ∧ Reps C H ds vs fp ∧ (∀ a ∈ fp, L a ∨ S a) ∧ (s = true → ∀ a ∈ fp, S a)
  | [], s, ds, vs, tvs, trs, h, ar => by cases h; cases ar; exact ⟨[], rfl, rfl, ⟨rfl, rfl⟩, by simp, by simp⟩
  | .vl t d :: as, s, ds, vs, tvs, trs, h, ar => by
    unfold valsA at h
    split at h
    · rename_i t' ds' h'
      cases h
      cases ar with
      | vl r s1 t1 ar' =>
        obtain ⟨fp, rfl, rfl, rr, sr, tr⟩ := vals_ok h' ar'
        refine ⟨_, rfl, rfl, ⟨_, _, _, _, rfl, rfl, r, rr⟩, fun a ha => (List.mem_append.mp ha).elim (s1 a) (sr a), fun z a ha => ?_⟩
        simp only [Bool.and_eq_true] at z
        exact (List.mem_append.mp ha).elim (t1 z.1 a) (tr z.2 a)
    · cases h
  | .tp _ :: _, _, _, _, _, _, h, _ => by cases h
  | .mv _ :: _, _, _, _, _, _, h, _ => by cases h
theorem Pst.laid {p : Addr} {o : HO} (q : Pst C L P σ ev O S H rs ev1 vs τ O1 S1 H1) (hp : H1 p = none) : Pst C L P σ ev O S H rs ev1 vs τ O1 S1 (upd H1 p o) := ⟨q.fit, q.lk, q.len, q.nl, q.good.laid hp, q.go.trans (Go.laid hp)⟩
/-- pieces as arguments -/
def ArgsW (C : Cs) (mg : Str → Option Value) (W : WX) (ts : TA) (B : ∀ {α : Type}, Arp α) : Prop := ∀ (α : Type) σ H Q, tAC C mg W (B (α := α)) σ H Q → ts σ H Q
theorem aw_nil : ArgsW C mg W tNil aNil := fun _ => nil_w
theorem aw_cons {t : TE} {ts : TA} {F : ∀ {α : Type}, Arp α → Arp α} {B : ∀ {α : Type}, Arp α} (h : OpdW C mg W t F) (k : ArgsW C mg W ts B) : ArgsW C mg W (tCons t ts) (F B) := fun α => h α B ts (k α)
theorem ow_tup {ts : TA} {B : ∀ {α : Type}, Arp α} (h : ArgsW C mg W ts B) : OpdW C mg W (tTup ts) (fun A => aTup B A) := fun α A tr w σ H Q => by
  rintro ⟨k, R, ev0, O0, S0, H0, L, rs0, vs0, ev1, O1, S1, p, af, fin⟩
  refine h α σ H _ ⟨fun as ev1 => match valsA as with
  | some (s, ds) => if ds.length ≤ sizeLine then A (fun as' => k (.vl s (.tup ds) :: as')) ev1 else .no
  | none => .no, R, ev0, O0, S0, H0, L, rs0, vs0, ev1, O1, S1, p, af, fun as vs tvs trs ev2 O2 S2 H2 p2 kp ar af2 => ?_⟩
  dsimp only at af2
  split at af2
  · rename_i s ds hv
    split at af2
    · rename_i hz
      obtain ⟨fp, rfl, rfl, rr, sr, tr⟩ := vals_ok hv ar
      rw [List.append_nil, List.append_nil] at p2
      refine ⟨by rw [rr.length]; exact hz, fun q hq => ?_⟩
      have gO : ∃ OE, Good C H2 OE S2 L (ents ev2 σ) := by obtain ⟨OE, g1, _⟩ := p2.next; exact ⟨OE, g1⟩
      obtain ⟨OE, gE⟩ := gO
      have kq : Kpt C L H2 S2 (upd H2 q (.tup vs)) S2 := (Go.laid (O := OE) hq).kpt gE
      have rT : Rep C (upd H2 q (.tup vs)) (.tup ds) (.ref q) fp := ⟨q, vs, rfl, .inl upd_same, rr.kp (upd_kp hq (reps_live rr))⟩
      refine w σ _ _ ⟨fun as' => k (.vl s (.tup ds) :: as'), R, ev0, O0, S0, H0, L, rs0, vs0, ev2, O2, S2, p2.laid hq, af2, fun as' vs' tvs trs ev3 O4 S4 H4 p4 kp4 ar4 af4 => ?_⟩
      obtain ⟨r6, s6⟩ := kp4.1 _ _ _ rT sr
      exact fin (.vl s (.tup ds) :: as') (.ref q :: vs') tvs trs ev3 O4 S4 H4 p4 ((kp.trans kq).trans kp4) (.vl r6 s6 (fun z a ha => kp4.2 a (tr z a ha)) ar4) af4
    · exact af2.elim
  · exact af2.elim
/-! ### slices -/
theorem reps_take : ∀ {n : Nat} {ds : List D} {xs : List V} {fp : List Addr}, Reps C H ds xs fp → ∃ fq, Reps C H (ds.take n) (xs.take n) fq ∧ ∀ a ∈ fq, a ∈ fp
  | 0, ds, xs, fp, r => ⟨[], by rw [List.take_zero, List.take_zero]; exact ⟨rfl, rfl⟩, by simp⟩
  | n + 1, [], xs, fp, r => by obtain ⟨rfl, rfl⟩ : xs = [] ∧ fp = [] := r; exact ⟨[], ⟨rfl, rfl⟩, by simp⟩
  | n + 1, d :: ds, xs, fp, r => by
    obtain ⟨v, vs, f1, f2, rfl, rfl, r1, r2⟩ := r
    obtain ⟨fq, r3, s3⟩ := reps_take (n := n) r2
    exact ⟨f1 ++ fq, ⟨v, vs.take n, f1, fq, rfl, rfl, r1, r3⟩, fun a h => (List.mem_append.mp h).elim (List.mem_append_left _) fun h => List.mem_append_right _ (s3 a h)⟩
theorem reps_drop : ∀ {n : Nat} {ds : List D} {xs : List V} {fp : List Addr}, Reps C H ds xs fp → ∃ fq, Reps C H (ds.drop n) (xs.drop n) fq ∧ ∀ a ∈ fq, a ∈ fp
  | 0, ds, xs, fp, r => ⟨fp, r, fun _ h => h⟩
  | n + 1, [], xs, fp, r => by obtain ⟨rfl, rfl⟩ : xs = [] ∧ fp = [] := r; exact ⟨[], ⟨rfl, rfl⟩, by simp⟩
  | n + 1, d :: ds, xs, fp, r => by
    obtain ⟨v, vs, f1, f2, rfl, rfl, r1, r2⟩ := r
    obtain ⟨fq, r3, s3⟩ := reps_drop (n := n) r2
    exact ⟨fq, r3, fun a h => List.mem_append_right _ (s3 a h)⟩
theorem reps_cut {ds : List D} {xs : List V} {fp : List Addr} {lo hi : Option Int} (r : Reps C H ds xs fp) : ∃ fq, Reps C H (cutD ds lo hi) (cutV xs lo hi) fq ∧ ∀ a ∈ fq, a ∈ fp := by
  obtain ⟨f1, r1, s1⟩ := reps_drop (n := HT.sIx ds.length 0 lo) r
  obtain ⟨f2, r2, s2⟩ := reps_take (n := HT.sIx ds.length ds.length hi - HT.sIx ds.length 0 lo) r1
  refine ⟨f2, ?_, fun a h => s1 a (s2 a h)⟩
  unfold cutD cutV
  rw [r.length]
  exact r2
def rSl (K : PySem.W.Frag) (x : V) (lo hi : Option Int) (H : Hp) (Q : VK) : Prop := rSlL K x lo hi H Q ∨ rSlA K x lo hi H Q
theorem sl_all : SlR X (rSl X.K) := sl_list.or sl_tupA
theorem slG_ok {lo hi : Option Int} {s : Bool} {d : D} {x : V} {fp : List Addr} {Q : VK} (p : Pst (KL K) L (fun _ => True) σ ev O S H [] ev2 [] σ O2 S2 H2) (r : Rep (KL K) H2 d x fp) (t : s = true → ∀ a ∈ fp, S2 a)
    (af : Aft (KL K) mg σ ev O S L H W (kSlG lo hi s d ev2) (fun r ev' => ∀ v H' O' S', Pst (KL K) L (fun _ => True) σ ev O S H [r] ev' [v] σ O' S' H' → Q v H')) : rSl K x lo hi H2 Q := by
  unfold kSlG at af
  split at af
  · rename_i ds
    obtain ⟨a, xs, f1, rfl, sq, rr, sub⟩ := seqD_rep (show seqD (.lst ds) = some ds from rfl) r
    have sq : SqL K H2 a xs := by rcases sq with h | h; exact h.1; cases h.2
    obtain ⟨fq, r3, s3⟩ := reps_cut (lo := lo) (hi := hi) rr
    obtain ⟨r4, k4, p4⟩ := newL_ok p r3 (fun z a ha => t z a (sub a (s3 a ha))) af
    refine .inl ⟨a, xs, rfl, sq, fun q hq => ?_⟩
    obtain ⟨O5, S5, p5⟩ := p4 q hq
    exact k4 _ _ _ _ p5
  · rename_i ds
    obtain ⟨a, xs, f1, rfl, sq, rr, sub⟩ := seqD_rep (show seqD (.tup ds) = some ds from rfl) r
    have sq : SqT K H2 a xs := by rcases sq with h | h; cases h.2; exact h.1
    have hl : xs.length = ds.length := rr.length
    split at af
    · rename_i hw
      obtain ⟨r4, O4, k4, p4⟩ := kid_ok p r t af
      exact .inr ⟨a, xs, rfl, sq, fun _ => k4 _ H2 O4 S2 p4, fun hn => absurd (by rw [hl]; exact hw) hn⟩
    · rename_i hw
      obtain ⟨fq, r3, s3⟩ := reps_cut (lo := lo) (hi := hi) rr
      obtain ⟨r4, k4, p4, _⟩ := newT_ok p r3 (fun z a ha => t z a (sub a (s3 a ha))) af
      refine .inr ⟨a, xs, rfl, sq, fun hn => absurd (by rw [← hl]; exact hn) hw, fun _ q hq => ?_⟩
      obtain ⟨O5, S5, p5⟩ := p4 q hq
      exact k4 _ _ _ _ p5
  · exact af.elim
theorem k_slA : KOk (KL K) (fun vs H Q => ∃ x i, vs = [x, .int i] ∧ rSl K x (some i) none H Q) kSlA := fun mg W σ ev O S L H as vs tvs trs ev2 O2 S2 H2 Q p ar af => by
  unfold kSlA at af
  split at af
  · obtain ⟨x, y, fp, fq, rfl, rfl, rfl, r1, r2, s1, _, t1, _⟩ := argR_vals2 ar
    rw [rp_int r2]
    exact ⟨x, _, rfl, slG_ok p r1 t1 af⟩
  · exact af.elim
theorem k_slB : KOk (KL K) (fun vs H Q => ∃ x i, vs = [x, .int i] ∧ rSl K x none (some i) H Q) kSlB := fun mg W σ ev O S L H as vs tvs trs ev2 O2 S2 H2 Q p ar af => by
  unfold kSlB at af
  split at af
  · obtain ⟨x, y, fp, fq, rfl, rfl, rfl, r1, r2, s1, _, t1, _⟩ := argR_vals2 ar
    rw [rp_int r2]
    exact ⟨x, _, rfl, slG_ok p r1 t1 af⟩
  · exact af.elim
theorem k_slC : KOk (KL K) (fun vs H Q => ∃ x i j, vs = [x, .int i, .int j] ∧ rSl K x (some i) (some j) H Q) kSlC := fun mg W σ ev O S L H as vs tvs trs ev2 O2 S2 H2 Q p ar af => by
  unfold kSlC at af
  split at af
  · cases ar with
    | vl r s1 t1 ar' => cases ar' with
      | vl r2 s2 t2 ar2 => cases ar2 with
        | vl r3 s3 t3 ar3 =>
          cases ar3
          rw [rp_int r2, rp_int r3]
          exact ⟨_, _, _, rfl, slG_ok p r t1 af⟩
  · exact af.elim
/-! ### sums -/
def rCatL (K : PySem.W.Frag) : R2 := fun x y H Q => ∃ a b xs ys, x = .ref a ∧ y = .ref b ∧ SqL K H a xs ∧ SqL K H b ys ∧ xs.length + ys.length ≤ sizeLine ∧ ∀ p, H p = none → Q (.ref p) (upd H p (.lst (xs ++ ys)))
theorem op_catL : OpR X (binaryOp .Add) (rCatL X.K) := by
  intro pins s σ H x y v u Q I rx ry h
  obtain ⟨l, b, xs, zs, rfl, rfl, hH, hB, hz, q⟩ := h
  cases rx
  cases ry
  obtain ⟨its, r, hl, hz1⟩ := I.list hH
  obtain ⟨its2, r2, hl2, hz2⟩ := I.list hB
  obtain ⟨⟨cls, dd, data, sl⟩, ho, hc, n, hd⟩ := id hl.isList
  obtain ⟨⟨cls2, dd2, data2, sl2⟩, ho2, hc2, n2, hd2⟩ := id hl2.isList
  simp only at hc hd hc2 hd2
  subst hc hd hc2 hd2
  have hsz : its.toArray.size + its2.toArray.size ≤ sizeLine := by
    rw [List.size_toArray, List.size_toArray, ← r.length, ← r2.length]; exact hz
  refine concat_meets ⟨_, ho, rfl⟩ ⟨_, ho2, rfl⟩ noFill_list_add seq_list_add PySem.F.slot_list_add PySem.F.entry_list_add (PySem.F.args_list_add_2 _ _) (PyProof.Rows.list_addW l b its.toArray its2.toArray n n2 dd dd2 sl sl2 hsz) ⟨ho, ho2, ?_⟩
  have ea : its.toArray ++ its2.toArray = (its ++ its2).toArray := by simp
  rw [ea]
  exact ⟨.ref _, _, I.lnew (t' := s.toks) (r.append r2) (by rw [List.length_append]; exact hz), rfl, q _ I.fresh⟩
def rAddB (K : PySem.W.Frag) : R2 := fun x y H Q => rAddA x y H Q ∨ rCatL K x y H Q ∨ rCatA K x y H Q
theorem o_addB : OpR X (binaryOp .Add) (rAddB X.K) := o_add.or (op_catL.or op_catA)
theorem k_add : KOk (KL K) (l2of (rAddB K)) kAdd := fun mg W σ ev O S L H as vs tvs trs ev2 O2 S2 H2 Q p ar af => by
  unfold kAdd at af
  split at af
  · rename_i s xs t ys
    obtain ⟨x, y, fp, fq, rfl, rfl, rfl, r1, r2, s1, s2, t1, t2⟩ := argR_vals2 ar
    split at af
    · rename_i hz
      obtain ⟨a, us, f1, rfl, rr, sq⟩ := r1
      obtain ⟨b, ws, f2, rfl, rr2, sq2⟩ := r2
      have m1 : ∀ c ∈ f1, c ∈ fp := fun c h => by rcases sq with ⟨_, e⟩ | ⟨_, e⟩ <;> rw [e] <;> first | exact List.mem_cons_of_mem _ h | exact h
      have m2 : ∀ c ∈ f2, c ∈ fq := fun c h => by rcases sq2 with ⟨_, e⟩ | ⟨_, e⟩ <;> rw [e] <;> first | exact List.mem_cons_of_mem _ h | exact h
      obtain ⟨r4, k4, p4⟩ := newL_ok p (rr.append rr2) (fun z c hc => by
        simp only [Bool.and_eq_true] at z
        exact (List.mem_append.mp hc).elim (fun h => t1 z.1 c (m1 c h)) fun h => t2 z.2 c (m2 c h)) af
      refine ⟨_, _, rfl, .inr (.inl ⟨a, b, us, ws, rfl, rfl, sq_of sq, sq_of sq2, by rw [rr.length, rr2.length]; exact hz, fun q hq => ?_⟩)⟩
      obtain ⟨O5, S5, p5⟩ := p4 q hq
      exact k4 _ _ _ _ p5
    · exact af.elim
  · rename_i s xs t ys
    obtain ⟨x, y, fp, fq, rfl, rfl, rfl, r1, r2, s1, s2, t1, t2⟩ := argR_vals2 ar
    split at af
    · rename_i hz
      obtain ⟨a, us, rfl, sq, rr⟩ := r1
      obtain ⟨b, ws, rfl, sq2, rr2⟩ := r2
      obtain ⟨r4, k4, p4, p5⟩ := newT_ok p (rr.append rr2) (fun z c hc => by
        simp only [Bool.and_eq_true] at z
        exact (List.mem_append.mp hc).elim (fun h => t1 z.1 c h) fun h => t2 z.2 c h) af
      refine ⟨_, _, rfl, .inr (.inr ⟨a, b, us, ws, rfl, rfl, .inl sq, .inl sq2, by rw [rr.length, rr2.length]; exact hz, fun e => ?_, fun _ e => ?_, fun _ _ q hq => ?_⟩)⟩
      · obtain ⟨O5, S5, p6⟩ := p5 b (by rw [e]; exact sq2)
        exact k4 _ _ _ _ p6
      · obtain ⟨O5, S5, p6⟩ := p5 a (by rw [e, List.append_nil]; exact sq)
        exact k4 _ _ _ _ p6
      · obtain ⟨O5, S5, p6⟩ := p4 q hq
        exact k4 _ _ _ _ p6
    · exact af.elim
  · rename_i s a t b _ _
    obtain ⟨x, y, fp, fq, rfl, rfl, rfl, r1, r2, _⟩ := argR_vals2 ar
    split at af
    · rename_i z hz
      refine ⟨x, y, rfl, .inl (pr_add H2 x y _ _ z fp fq Q r1 r2 hz fun v fl rv => ?_)⟩
      obtain ⟨O4, p4⟩ := p.flat fl rv
      exact af v H2 O4 S2 p4
    · exact af.elim
  · exact af.elim
/-! ### the pieces -/
variable {t1 t2 t3 : TE} {ts : TA} {F1 F2 F3 : ∀ {α : Type}, Arp α → Arp α} {B : ∀ {α : Type}, Arp α} {k : List Ag → Ev → Rs MD} {c : Expr}
theorem e_op {op : Operator} {r : R2} (ho : OpR X (binaryOp op) r) (hk : KOk C (l2of r) k) (ha : PE X a t1) (w1 : OpdW C mg W t1 F1) (hb : PE X b t2) (w2 : OpdW C mg W t2 F2) : PE X (.BinOp a op b pos) (tE C mg W (opA k (F1 (F2 aNil)))) := pe_weak (pe_op ho ha hb) (op_weak hk w1 w2)
theorem e_cmp {op : CmpOp} {r : R2} (ho : OpR X (compareOp op) r) (hk : KOk C (l2of r) k) (ha : PE X a t1) (w1 : OpdW C mg W t1 F1) (hb : PE X b t2) (w2 : OpdW C mg W t2 F2) (hm : behindInMarks op b = false) : PE X (.Compare a [op] [b] pos) (tE C mg W (opA k (F1 (F2 aNil)))) := pe_weak (pe_cmpR ho ha hb hm) (op_weak hk w1 w2)
theorem e_cmpT {op : CmpOp} {r : R2} (ho : OpR X (compareOp op) r) (hk : KOk C (l2of r) k) (ha : PE X a t1) (w1 : OpdW C mg W t1 F1) (hb : PE X b t2) (w2 : OpdW C mg W t2 F2) (hm : behindInMarks op b = false) : PT X (.Compare a [op] [b] pos) (tBM C mg W (bM (opA k (F1 (F2 aNil))))) := pt_weak (pt_cmpR ho ha hb hm) (bM_weak (op_weak hk w1 w2))
theorem e_un {op : UnaryOp} {r : V → Hp → VK → Prop} (ho : UnR X (unaryOp op) r) (hk : KOk C (l1of r) k) (ha : PE X a t1) (w1 : OpdW C mg W t1 F1) : PE X (.UnaryOp op a pos) (tE C mg W (opA k (F1 aNil))) := pe_weak (pe_un ho ha) (un_weak hk w1)
theorem e_ix (ha : PE X a t1) (w1 : OpdW (KL X.K) mg W t1 F1) (hb : PE X b t2) (w2 : OpdW (KL X.K) mg W t2 F2) (hs : PlainIx b) : PE X (.Subscript a b pos) (tE (KL X.K) mg W (opA kIx (F1 (F2 aNil)))) := pe_weak (pe_ix ix_seq ha hb hs) (op_weak k_ix w1 w2)
theorem tcb_weak {r : RL} (hk : KOk C r k) (w : ArgsW C mg W ts B) : ∀ σ H Q, tE C mg W (opA k B) σ H Q → tCB r ts σ H Q := fun σ H Q z => w MD σ H _ (cb_weak hk σ H Q z)
theorem e_slA (ha : PE X a t1) (w1 : OpdW (KL X.K) mg W t1 F1) (hb : PE X b t2) (w2 : OpdW (KL X.K) mg W t2 F2) : PE X (.Subscript a (.Slice (some b) none none p2) pos) (tE (KL X.K) mg W (opA kSlA (F1 (F2 aNil)))) :=
  pe_weak (pe_slice sl_all ha (po_some hb) po_none) fun σ H Q z => by
    have z := tcb_weak k_slA (aw_cons w1 (aw_cons w2 aw_nil)) σ H Q z
    refine cast ?_ z
    show t1 σ H (fun x H1 => t2 σ H1 fun y H2 => ∃ x' i, [x, y] = [x', .int i] ∧ rSl X.K x' (some i) none H2 Q) = t1 σ H fun x H1 => t2 σ H1 fun y H2 => ∃ i, y = .int i ∧ rSl X.K x (some i) none H2 Q
    congr 1; funext x H1; congr 1; funext y H2
    apply propext
    constructor
    · rintro ⟨x', i, e, q⟩; cases e; exact ⟨i, rfl, q⟩
    · rintro ⟨i, rfl, q⟩; exact ⟨x, i, rfl, q⟩
theorem e_slB (ha : PE X a t1) (w1 : OpdW (KL X.K) mg W t1 F1) (hb : PE X b t2) (w2 : OpdW (KL X.K) mg W t2 F2) : PE X (.Subscript a (.Slice none (some b) none p2) pos) (tE (KL X.K) mg W (opA kSlB (F1 (F2 aNil)))) :=
  pe_weak (pe_slice sl_all ha po_none (po_some hb)) fun σ H Q z => by
    have z := tcb_weak k_slB (aw_cons w1 (aw_cons w2 aw_nil)) σ H Q z
    refine cast ?_ z
    show t1 σ H (fun x H1 => t2 σ H1 fun y H2 => ∃ x' i, [x, y] = [x', .int i] ∧ rSl X.K x' none (some i) H2 Q) = t1 σ H fun x H1 => t2 σ H1 fun y H2 => ∃ i, y = .int i ∧ rSl X.K x none (some i) H2 Q
    congr 1; funext x H1; congr 1; funext y H2
    apply propext
    constructor
    · rintro ⟨x', i, e, q⟩; cases e; exact ⟨i, rfl, q⟩
    · rintro ⟨i, rfl, q⟩; exact ⟨x, i, rfl, q⟩
/-- an int known before the rest -/
theorem e_slC {f : Ev → Option Pv} (ha : PE X a t1) (w1 : OpdW (KL X.K) mg W t1 F1) (hb : PE X b (tP (KL X.K) f)) (hc : PE X c t3) (w3 : OpdW (KL X.K) mg W t3 F3) : PE X (.Subscript a (.Slice (some b) (some c) none p2) pos) (tE (KL X.K) mg W (opA kSlC (F1 (aPI f (F3 aNil))))) :=
  pe_weak (pe_slice sl_all ha (po_some hb) (po_some hc)) fun σ H Q z => by
    have z := cb_weak k_slC σ H Q z
    have w2 : ∀ σ H Q, tAC (KL X.K) mg W (aPI f (F3 (aNil (α := MD)))) σ H Q → tP (KL X.K) f σ H fun v H1 => ∃ i, v = .int i ∧ tCons t3 tNil σ H1 fun vs H2 => Q (v :: vs) H2 := fun σ H Q => by
      rintro ⟨k, R, ev0, O0, S0, H0, L, rs0, vs0, ev1, O1, S1, p, af, fin⟩
      obtain ⟨OE, g1, nx⟩ := p.next
      have af : Aft (KL X.K) mg σ ev0 O0 S0 L H0 W (aPI f (F3 aNil) k ev1) R := af
      unfold aPI at af
      split at af
      · rename_i pv hf
        split at af
        · rename_i i hi
          refine ⟨ev1, OE, S1, L, p.fit, g1, _, hf, fun v ok => ⟨i, ?_, ?_⟩⟩
          · obtain ⟨fp, r⟩ := pv_rep ok
            rw [hi] at r
            exact rp_int r
          · obtain ⟨fp, r⟩ := pv_rep ok
            rw [hi] at r
            have r0 : Rep (KL X.K) H (.int i) v [] := rep_flat0 rfl r
            exact w3 MD aNil tNil nil_w σ H _ ⟨fun as => k (.vl true (.int i) :: as), R, ev0, O0, S0, H0, L, rs0, vs0, ev1, O1, S1, p, af, fun as vs tvs trs ev3 O4 S4 H4 p4 kp ar af4 =>
              let ⟨r6, s6⟩ := kp.1 _ _ _ r0 (by simp)
              fin (.vl true (.int i) :: as) (v :: vs) tvs trs ev3 O4 S4 H4 p4 kp (.vl r6 s6 (fun z a ha => nomatch ha) ar) af4⟩
        · exact af.elim
      · exact af.elim
    have z2 := w1 MD (aPI f (F3 aNil)) (fun σ H Q => tP (KL X.K) f σ H fun v H1 => ∃ i, v = .int i ∧ tCons t3 tNil σ H1 fun vs H2 => Q (v :: vs) H2) w2 σ H _ z
    refine cast ?_ z2
    show t1 σ H (fun x H1 => tP (KL X.K) f σ H1 fun y H2 => ∃ i, y = .int i ∧ t3 σ H2 fun u H3 => ∃ x' i j, [x, y, u] = [x', .int i, .int j] ∧ rSl X.K x' (some i) (some j) H3 Q) = t1 σ H fun x H1 => tP (KL X.K) f σ H1 fun y H2 => ∃ i, y = .int i ∧ t3 σ H2 fun u H3 => ∃ j, u = .int j ∧ rSl X.K x (some i) (some j) H3 Q
    congr 1; funext x H1; congr 1; funext y H2
    congr 1; funext i
    apply propext
    constructor
    · rintro ⟨rfl, q⟩
      refine ⟨rfl, cast ?_ q⟩
      congr 1; funext u H3
      apply propext
      constructor
      · rintro ⟨x', i', j', e, q⟩; cases e; exact ⟨_, rfl, q⟩
      · rintro ⟨j, rfl, q⟩; exact ⟨x, _, j, rfl, q⟩
    · rintro ⟨rfl, q⟩
      refine ⟨rfl, cast ?_ q⟩
      congr 1; funext u H3
      apply propext
      constructor
      · rintro ⟨j, rfl, q⟩; exact ⟨x, _, j, rfl, q⟩
      · rintro ⟨x', i', j', e, q⟩; cases e; exact ⟨_, rfl, q⟩
theorem e_rev {kk : Nat} {q1 q2 q3 : Pos} (ha : PE X a t1) (w1 : OpdW (KL X.K) mg W t1 F1) : PE X (.Subscript a (.Slice none none (some (.UnaryOp .USub (.Constant (.int 1) kk q1) q2)) q3) pos) (tE (KL X.K) mg W (opA (kL1 gRev) (F1 aNil))) :=
  pe_weak (pe_revL ha) fun σ H Q z => by
    have z := tcb_weak (k_l1 prn_rev) (aw_cons w1 aw_nil) σ H Q z
    refine cast ?_ z
    show t1 σ H (fun x H1 => ∃ a ys, [x] = [V.ref a] ∧ SqL X.K H1 a ys ∧ ∀ p, H1 p = none → Q (.ref p) (upd H1 p (.lst ys.reverse))) = t1 σ H fun x H1 => ∃ a xs, x = .ref a ∧ SqL X.K H1 a xs ∧ ∀ p, H1 p = none → Q (.ref p) (upd H1 p (.lst xs.reverse))
    congr 1; funext x H1
    apply propext
    constructor
    · rintro ⟨a, ys, e, q⟩; cases e; exact ⟨a, ys, rfl, q⟩
    · rintro ⟨a, ys, rfl, q⟩; exact ⟨a, ys, rfl, q⟩
variable {x : Str} {p : Pos} {id : String} {r : RL}
theorem e_cb (hc : CallR X (.builtin id) r) (hk : KOk C r k) (hg : Gl X x) (hm : X.mg x = none) (hv : bootBuiltins x = some (.builtin id)) (ha : PA X (e :: es) ts) (w : ArgsW C mg W ts B) (hn : x ≠ "__name__" := by decide) (hdb : (x == ("__debug__" : Str)) = false := by decide)
    (he : starEach (e :: es) X.env = (false, eval e X.env) :: starEach es X.env := by rfl) (hpl : (backTo pos (starEach es X.env)).any (·.1) = false := by rfl) : PE X (.Call (.Name x p) (e :: es) [] pos) (tE C mg W (opA k B)) :=
  pe_weak (pe_callB hc hg hm hv ha hn hdb he hpl) (tcb_weak hk w)
theorem e_ty {T : String} (hc : CallR X (.type T) r) (hk : KOk C r k) (hg : Gl X x) (hm : X.mg x = none) (hv : bootBuiltins x = some (.type T)) (ha : PA X (e :: es) ts) (w : ArgsW C mg W ts B) (hn : x ≠ "__name__" := by decide) (hdb : (x == ("__debug__" : Str)) = false := by decide)
    (he : starEach (e :: es) X.env = (false, eval e X.env) :: starEach es X.env := by rfl) (hpl : (backTo pos (starEach es X.env)).any (·.1) = false := by rfl) : PE X (.Call (.Name x p) (e :: es) [] pos) (tE C mg W (opA k B)) :=
  pe_weak (pe_callTy hc hg hm hv ha hn hdb he hpl) (tcb_weak hk w)
end
end T6

namespace T6
open PySem PySem.Spec PyProof.Rows L2
variable [Tbl]
/-- a part by its path -/
inductive At (H : Hp) : D → V → List Nat → D → V → Prop
  | nil {d v} : At H d v [] d v
  | lst {ds vs a k ks dk vk d v} : H a = some (.lst vs) → ds[k]? = some dk → vs[k]? = some vk → At H dk vk ks d v → At H (.lst ds) (.ref a) (k :: ks) d v
  | tup {ds vs a k ks dk vk d v} : Rd H a (.tup vs) → ds[k]? = some dk → vs[k]? = some vk → At H dk vk ks d v → At H (.tup ds) (.ref a) (k :: ks) d v
def putP : List Nat → D → D → D
  | [], _, x => x
  | k :: ks, .lst ds, x => .lst (ds.modify k fun y => putP ks y x)
  | k :: ks, .tup ds, x => .tup (ds.modify k fun y => putP ks y x)
  | _, d, _ => d
/-- what becomes of a list's items, with one new thing at hand -/
def Chg (ds : List D) (vs : List V) (d : D) (v : V) (ds' : List D) (vs' : List V) : Prop :=
  ∀ (C : Cs) (H : Hp) f1 fo, Reps C H ds vs f1 → Rep C H d v fo → ∃ g, Reps C H ds' vs' g ∧ (∀ a ∈ g, a ∈ f1 ++ fo) ∧ ((f1 ++ fo).Nodup → g.Nodup)
section
variable {K : PySem.W.Frag} {C : Cs} {mg : Str → Option Value} {X : Cx} {W : WX} {a b e : Expr} {H H' H1 H2 : Hp} {O O' O1 O2 S S' S1 S2 L : Ps} {P P' : Nat → Prop} {σ τ : L2.St} {ev ev1 ev2 : Ev} {pos p2 : Pos} {rs rs1 rs2 : List MD} {vs vs1 vs2 : List V} {es : List En}
theorem At.snocL {d0 : D} {v0 : V} {ks : List Nat} {ds : List D} {a : Addr} {ws : List V} {k : Nat} {dk : D} {vk : V} (h : At H d0 v0 ks (.lst ds) (.ref a)) (hH : H a = some (.lst ws)) (h1 : ds[k]? = some dk) (h2 : ws[k]? = some vk) : At H d0 v0 (ks ++ [k]) dk vk := by
  generalize hd : D.lst ds = d at h
  generalize hv : V.ref a = v at h
  induction h with
  | nil => subst hd; subst hv; exact .lst hH h1 h2 .nil
  | lst q1 q2 q3 _ ih => exact .lst q1 q2 q3 (ih hd hv)
  | tup q1 q2 q3 _ ih => exact .tup q1 q2 q3 (ih hd hv)
theorem At.snocT {d0 : D} {v0 : V} {ks : List Nat} {ds : List D} {a : Addr} {ws : List V} {k : Nat} {dk : D} {vk : V} (h : At H d0 v0 ks (.tup ds) (.ref a)) (hH : Rd H a (.tup ws)) (h1 : ds[k]? = some dk) (h2 : ws[k]? = some vk) : At H d0 v0 (ks ++ [k]) dk vk := by
  generalize hd : D.tup ds = d at h
  generalize hv : V.ref a = v at h
  induction h with
  | nil => subst hd; subst hv; exact .tup hH h1 h2 .nil
  | lst q1 q2 q3 _ ih => exact .lst q1 q2 q3 (ih hd hv)
  | tup q1 q2 q3 _ ih => exact .tup q1 q2 q3 (ih hd hv)
theorem reps_at : ∀ {ds : List D} {vs : List V} {fp : List Addr} {k : Nat} {d : D}, Reps C H ds vs fp → ds[k]? = some d → ∃ v fl fm fr, vs[k]? = some v ∧ Rep C H d v fm ∧ fp = fl ++ (fm ++ fr) ∧
    ∀ (H' : Hp) (d' : D) (g : List Addr), Kp (fl ++ fr) H H' → Rep C H' d' v g → Reps C H' (ds.set k d') vs (fl ++ (g ++ fr))
  | [], _, _, k, d, _, e => by simp at e
  | x :: ds, vs, fp, 0, d, r, e => by
    obtain ⟨v, vs', f1, f2, rfl, rfl, r1, r2⟩ := r
    simp only [List.getElem?_cons_zero, Option.some.injEq] at e
    subst e
    exact ⟨v, [], f1, f2, rfl, r1, rfl, fun H' d' g kp r => ⟨v, vs', g, f2, rfl, rfl, r, r2.kp (by simpa using kp)⟩⟩
  | x :: ds, vs, fp, k + 1, d, r, e => by
    obtain ⟨v, vs', f1, f2, rfl, rfl, r1, r2⟩ := r
    simp only [List.getElem?_cons_succ] at e
    obtain ⟨w, fl, fm, fr, e1, r3, rfl, nx⟩ := reps_at r2 e
    refine ⟨w, f1 ++ fl, fm, fr, by simpa using e1, r3, by simp, fun H' d' g kp r => ?_⟩
    have kp1 : Kp f1 H H' := kp.sub fun a ha => by simp [ha]
    have kp2 : Kp (fl ++ fr) H H' := kp.sub fun a ha => by rw [List.append_assoc]; exact List.mem_append_right _ ha
    exact ⟨v, vs', f1, fl ++ (g ++ fr), rfl, by simp, r1.kp kp1, nx H' d' g kp2 r⟩
theorem modify_set {ds : List D} {k : Nat} {d : D} {f : D → D} (h : ds[k]? = some d) : ds.modify k f = ds.set k (f d) := by
  induction ds generalizing k with
  | nil => simp at h
  | cons x ds ih =>
    cases k with
    | zero => simp only [List.getElem?_cons_zero, Option.some.injEq] at h; subst h; rfl
    | succ k => simp only [List.getElem?_cons_succ] at h; simp [ih h]
theorem lst_rd {a : Addr} {vs : List V} (r : Rd H a (.lst vs)) (t : Trk H a) : H a = some (.lst vs) := by
  rcases r with r | ⟨o, r⟩
  · exact r
  · exact (t.nofrz r).elim
/-- the tree behind a change at a path -/
theorem path_upd {d0 d : D} {v0 w : V} {ks : List Nat} (h : At H d0 v0 ks d w) : ∀ {ds : List D} {f0 : List Addr}, d = .lst ds → Rep RF H d0 v0 f0 → f0.Nodup → (∀ a ∈ f0, Trk H a) →
    ∃ p vs f1, w = .ref p ∧ H p = some (.lst vs) ∧ Reps RF H ds vs f1 ∧ p ∈ f0 ∧ p ∉ f1 ∧ f1.Nodup ∧ (∀ a ∈ f1, a ∈ f0) ∧
      ∀ (ds' : List D) (vs' : List V) (g fn : List Addr), Reps RF (upd H p (.lst vs')) ds' vs' g → p ∉ g → g.Nodup → (∀ a ∈ g, a ∈ f1 ∨ a ∈ fn) → (∀ a ∈ fn, a ∉ f0) →
        ∃ f', Rep RF (upd H p (.lst vs')) (putP ks d0 (.lst ds')) v0 f' ∧ f'.Nodup ∧ ∀ a ∈ f', a ∈ f0 ∨ a ∈ fn := by
  induction h with
  | nil =>
    intro ds f0 e r nd tk
    subst e
    obtain ⟨a, vs, f1, rfl, rr, q | ⟨q, _⟩⟩ := r
    rotate_left
    · exact q.elim
    obtain ⟨q, rfl⟩ := q
    have nd' := List.nodup_cons.mp nd
    refine ⟨a, vs, f1, rfl, lst_rd q (tk a List.mem_cons_self), rr, List.mem_cons_self, nd'.1, nd'.2, fun a h => List.mem_cons_of_mem _ h, fun ds' vs' g fn r' pg ng sub dis => ?_⟩
    refine ⟨a :: g, ⟨a, vs', g, rfl, r', .inl ⟨.inl upd_same, rfl⟩⟩, List.nodup_cons.mpr ⟨pg, ng⟩, fun b hb => ?_⟩
    rcases List.mem_cons.mp hb with z | z
    · rw [z]; exact .inl List.mem_cons_self
    · exact (sub b z).imp (List.mem_cons_of_mem _) id
  | @lst xs ws a k ks dk vk d v hH h1 h2 hat ih =>
    intro ds f0 e r nd tk
    obtain ⟨a', vs', fc, e2, rr, q | ⟨q, _⟩⟩ := r
    rotate_left
    · exact q.elim
    cases e2
    obtain ⟨q, rfl⟩ := q
    have := lst_rd q (tk a List.mem_cons_self)
    rw [hH] at this
    cases this
    have nd' := List.nodup_cons.mp nd
    obtain ⟨v2, fl, fm, fr, e3, rm, rfl, nx⟩ := reps_at rr h1
    rw [h2] at e3
    cases e3
    have nd2 := List.nodup_append.mp nd'.2
    have nd3 := List.nodup_append.mp nd2.2.1
    obtain ⟨p, us, f1, rfl, hp, r1, pm, pf, nf, sf, go⟩ := ih e rm nd3.1 fun b hb => tk b (by simp [hb])
    have pa : p ≠ a := fun z => nd'.1 (by rw [← z]; simp [pm])
    have pfl : p ∉ fl := fun z => nd2.2.2 p z p (by simp [pm]) rfl
    have pfr : p ∉ fr := fun z => nd3.2.2 p pm p z rfl
    refine ⟨p, us, f1, rfl, hp, r1, by simp [pm], pf, nf, fun b hb => by simp [sf b hb], fun ds' vs' g fn r' pg ng sub dis => ?_⟩
    obtain ⟨f', r4, n4, s4⟩ := go ds' vs' g fn r' pg ng sub fun b hb z => dis b hb (by simp [z])
    have kp : Kp (fl ++ fr) H (upd H p (.lst vs')) := kp_upd (fun z => (List.mem_append.mp z).elim pfl pfr) (.inl ⟨_, hp⟩)
    have r5 := nx _ _ f' kp r4
    have inn : ∀ b ∈ f', b ∈ fm ∨ b ∈ fn := s4
    have na : a ∉ fl ++ (f' ++ fr) := fun z => by
      rcases List.mem_append.mp z with z | z
      · exact nd'.1 (by simp [z])
      · rcases List.mem_append.mp z with z | z
        · rcases inn a z with y | y
          · exact nd'.1 (by simp [y])
          · exact dis a y List.mem_cons_self
        · exact nd'.1 (by simp [z])
    refine ⟨a :: (fl ++ (f' ++ fr)), ?_, List.nodup_cons.mpr ⟨na, List.nodup_append.mpr ⟨nd2.1, List.nodup_append.mpr ⟨n4, nd3.2.1, fun x hx y hy z => ?_⟩, fun x hx y hy z => ?_⟩⟩, fun b hb => ?_⟩
    · show Rep RF _ (.lst (xs.modify k fun y => putP ks y (.lst ds'))) _ _
      rw [modify_set h1]
      exact ⟨a, _, _, rfl, r5, .inl ⟨.inl (by rw [upd_ne fun z => pa z.symm]; exact hH), rfl⟩⟩
    · subst z
      rcases inn x hx with h | h
      · exact nd3.2.2 x h x hy rfl
      · exact dis x h (by simp [hy])
    · subst z
      rcases List.mem_append.mp hy with hy | hy
      · rcases inn x hy with h | h
        · exact nd2.2.2 x hx x (by simp [h]) rfl
        · exact dis x h (by simp [hx])
      · exact nd2.2.2 x hx x (by simp [hy]) rfl
    · rcases List.mem_cons.mp hb with z | z
      · rw [z]; exact .inl List.mem_cons_self
      · rcases List.mem_append.mp z with z | z
        · exact .inl (by simp [z])
        · rcases List.mem_append.mp z with z | z
          · exact (inn b z).imp (fun h => by simp [h]) id
          · exact .inl (by simp [z])
  | @tup xs ws a k ks dk vk d v hH h1 h2 hat ih =>
    intro ds f0 e r nd tk
    obtain ⟨a', vs', e2, q, rr⟩ := r
    cases e2
    have same : ws = vs' := by
      rcases q with q | ⟨o, q⟩ <;> rcases hH with hH | ⟨o', hH⟩ <;> rw [hH] at q <;> cases q <;> rfl
    subst same
    obtain ⟨v2, fl, fm, fr, e3, rm, rfl, nx⟩ := reps_at rr h1
    rw [h2] at e3
    cases e3
    have nd2 := List.nodup_append.mp nd
    have nd3 := List.nodup_append.mp nd2.2.1
    obtain ⟨p, us, f1, rfl, hp, r1, pm, pf, nf, sf, go⟩ := ih e rm nd3.1 fun b hb => tk b (by simp [hb])
    have pfl : p ∉ fl := fun z => nd2.2.2 p z p (by simp [pm]) rfl
    have pfr : p ∉ fr := fun z => nd3.2.2 p pm p z rfl
    refine ⟨p, us, f1, rfl, hp, r1, by simp [pm], pf, nf, fun b hb => by simp [sf b hb], fun ds' vs' g fn r' pg ng sub dis => ?_⟩
    obtain ⟨f', r4, n4, s4⟩ := go ds' vs' g fn r' pg ng sub fun b hb z => dis b hb (by simp [z])
    have kp : Kp (fl ++ fr) H (upd H p (.lst vs')) := kp_upd (fun z => (List.mem_append.mp z).elim pfl pfr) (.inl ⟨_, hp⟩)
    have r5 := nx _ _ f' kp r4
    refine ⟨fl ++ (f' ++ fr), ?_, List.nodup_append.mpr ⟨nd2.1, List.nodup_append.mpr ⟨n4, nd3.2.1, fun x hx y hy z => ?_⟩, fun x hx y hy z => ?_⟩, fun b hb => ?_⟩
    · show Rep RF _ (.tup (xs.modify k fun y => putP ks y (.lst ds'))) _ _
      rw [modify_set h1]
      refine ⟨a, _, rfl, ?_, r5⟩
      have pa : a ≠ p := fun z => by
        subst z
        rcases hH with hH | ⟨o, hH⟩ <;> rw [hp] at hH <;> cases hH
      rcases hH with hH | ⟨o, hH⟩
      · exact .inl (by rw [upd_ne pa]; exact hH)
      · exact .inr ⟨o, by rw [upd_ne pa]; exact hH⟩
    · subst z
      rcases s4 x hx with h | h
      · exact nd3.2.2 x h x hy rfl
      · exact dis x h (by simp [hy])
    · subst z
      rcases List.mem_append.mp hy with hy | hy
      · rcases s4 x hy with h | h
        · exact nd2.2.2 x hx x (by simp [h]) rfl
        · exact dis x h (by simp [hx])
      · exact nd2.2.2 x hx x (by simp [hy]) rfl
    · rcases List.mem_append.mp hb with z | z
      · exact .inl (by simp [z])
      · rcases List.mem_append.mp z with z | z
        · exact (s4 b z).imp (fun h => by simp [h]) id
        · exact .inl (by simp [z])
end
end T6

namespace T6
open PySem PySem.Spec PyProof.Rows L2
variable [Tbl]
def getP : List Nat → D → Option D
  | [], d => some d
  | k :: ks, .lst ds => (ds[k]?).bind (getP ks)
  | k :: ks, .tup ds => (ds[k]?).bind (getP ks)
  | _, _ => none
/-- slot i's list at a path gets other items, with the thing r at hand -/
def mutG (u : List D → D → Option (List D)) (i : Nat) (ks : List Nat) (r : MD) (ev : Ev) : Option Ev := match ev[i]? with
  | some (some (.dp, d0)) => match getP ks d0 with
    | some (.lst ds) => match u ds r.2 with
      | some ds' => if r.1 = .dp ∨ flat r.2 = true then some (ev.set i (some (.dp, putP ks d0 (.lst ds')))) else if ks = [] then some (ev.set i (some (.rt, .lst ds'))) else none
      | none => none
    | _ => none
  | some (some (.rt, .lst ds)) => if ks = [] then match u ds r.2 with
      | some ds' => some (ev.set i (some (.rt, .lst ds')))
      | none => none
    else none
  | _ => none
section
variable {K : PySem.W.Frag} {C : Cs} {mg : Str → Option Value} {X : Cx} {W : WX} {a b e : Expr} {H H' H1 H2 : Hp} {O O' O1 O2 S S' S1 S2 L : Ps} {P P' : Nat → Prop} {σ τ : L2.St} {ev ev1 ev2 : Ev} {pos p2 : Pos} {rs rs1 rs2 : List MD} {vs vs1 vs2 : List V} {es : List En}
def MutOk (u : List D → D → Option (List D)) (w : List V → V → List V) : Prop := ∀ ds vs d v ds', vs.length = ds.length → u ds d = some ds' → Chg ds vs d v ds' (w vs v)
theorem Good.mutD {v0 v w : V} {d0 : D} {r : MD} {ks : List Nat} {ds : List D} (g : Good C H O S L ((v0, (Md.dp, d0)) :: (v, r) :: es)) (hr : r.1 = .dp ∨ T6.flat r.2 = true) (hat : At H d0 v0 ks (.lst ds) w) :
    ∃ p us, w = .ref p ∧ H p = some (.lst us) ∧ us.length = ds.length ∧ ∀ ds' vs', Chg ds us r.2 v ds' vs' → ∃ O', Good C (upd H p (.lst vs')) O' S L ((v0, (Md.dp, putP ks d0 (.lst ds'))) :: es) ∧ Go O S H O' S (upd H p (.lst vs')) := by
  obtain ⟨OX, OE, gX, gE, m, d⟩ := Good.parts (es := [(v0, (Md.dp, d0)), (v, r)]) (fs := es) g
  obtain ⟨ol, ⟨o1, o2', rfl, ⟨r0, tk⟩, o3, o4, rfl, hr3, ho4⟩, nd, mX⟩ := gX.ex
  have ho4 : o4 = [] := ho4
  subst ho4
  have new : ∃ fo, Rep RF H r.2 v fo ∧ (∀ b ∈ fo, Trk H b) ∧ fo.Sublist o3 := by
    obtain ⟨mr, dr⟩ := r
    by_cases fl : T6.flat dr = true
    · obtain ⟨fp, rr⟩ := hr3.rep
      exact ⟨[], rep_flat_rf fl rr, by simp, List.nil_sublist _⟩
    · have e : mr = .dp := hr.resolve_right fl
      subst e
      exact ⟨o3, hr3.1, hr3.2, List.Sublist.refl _⟩
  obtain ⟨fo, rr, tf, sub⟩ := new
  rw [List.append_nil] at nd mX
  have nd2 := List.nodup_append.mp nd
  obtain ⟨p, us, f1, rfl, hp, r1, pm, pf, nf, sf, go⟩ := path_upd hat rfl r0 nd2.1 tk
  refine ⟨p, us, rfl, hp, r1.length, fun ds' vs' chg => ?_⟩
  have dis : ∀ a ∈ fo, a ∉ o1 := fun a h z => nd2.2.2 a z a (sub.subset h) rfl
  have ndf : (f1 ++ fo).Nodup := List.nodup_append.mpr ⟨nf, sub.nodup nd2.2.1, fun x hx y hy z => dis y hy (by rw [← z]; exact sf x hx)⟩
  obtain ⟨gg, rg, sg, ng⟩ := chg RF H f1 fo r1 rr
  have pg : p ∉ gg := fun z => (List.mem_append.mp (sg p z)).elim pf fun z => dis p z pm
  have tp : Trk H p := .inl ⟨us, hp⟩
  obtain ⟨f', r', n', s'⟩ := go ds' vs' gg fo (rg.kp (kp_upd pg tp)) pg (ng ndf) (fun a h => List.mem_append.mp (sg a h)) dis
  have OXp : OX p := (mX p).mp (List.mem_append_left _ pm)
  have inO : ∀ b, b ∈ f' → OX b := fun b h => (mX b).mp ((s' b h).elim (List.mem_append_left _) fun h => List.mem_append_right _ (sub.subset h))
  have g' : Good C (upd H p (.lst vs')) (fun b => b ∈ f') S L [(v0, (Md.dp, putP ks d0 (.lst ds')))] := by
    refine ⟨⟨f', ⟨f', [], by simp, ⟨r', fun b hb => ?_⟩, rfl⟩, n', fun _ => Iff.rfl⟩, fun b h => gX.os b (inO b h), gX.sl, fun b h => (Go.wr (O := OX) (S := S) OXp tp).live b (gX.lv b h), (Go.wr (O := OX) (S := S) OXp tp).tab gX.trk gX.tab⟩
    by_cases e : b = p
    · subst e; exact .inl ⟨_, upd_same⟩
    · have tb : Trk H b := (s' b hb).elim (tk b) (tf b)
      rcases tb with ⟨xs, q⟩ | ⟨xs, q⟩
      · exact .inl ⟨xs, by rw [upd_ne e]; exact q⟩
      · exact .inr ⟨xs, by rw [upd_ne e]; exact q⟩
  have go' : Go OX S H (fun b => b ∈ f') S (upd H p (.lst vs')) := (Go.wr OXp tp).less inO
  obtain ⟨G, gg2⟩ := gX.frame gE d g' go'
  exact ⟨_, G, ⟨fun b o h n => gg2.keep b o h fun z => n ((m b).mpr z), gg2.code, gg2.live, fun b h => (gg2.newO b h).imp (m b).mpr id, gg2.monS, fun b h => (gg2.newS b h).imp id fun z => z.imp (m b).mpr id⟩⟩
theorem Good.mutR {v0 v : V} {r : MD} {ds : List D} (g : Good C H O S L ((v0, (Md.rt, .lst ds)) :: (v, r) :: es)) (hr : r.1 ≠ .lk) :
    ∃ p us, v0 = .ref p ∧ H p = some (.lst us) ∧ us.length = ds.length ∧ ∀ ds' vs', Chg ds us r.2 v ds' vs' → ∃ O' S', Good C (upd H p (.lst vs')) O' S' L ((v0, (Md.rt, .lst ds')) :: es) ∧ Go O S H O' S' (upd H p (.lst vs')) := by
  obtain ⟨O1, S1, g1, a1, a2, a3, _⟩ := (g.perm (.swap _ _ _)).share hr
  obtain ⟨o, _, fp, rr, s⟩ := good_ent g1
  obtain ⟨O2, g2, b1⟩ := Good.drop (es := [(v, (Md.sh, r.2))]) g1
  obtain ⟨p, us, f1, O3, rfl, hH, rs, q, g3, oa, n2, mm⟩ := rt_root g2
  refine ⟨p, us, rfl, hH, rs.length, fun ds' vs' chg => ?_⟩
  obtain ⟨gg, rg, sg, _⟩ := chg C H f1 fp rs rr
  obtain ⟨g4, go4⟩ := g2.rtSet hH rg fun b hb => (List.mem_append.mp (sg b hb)).elim (q b) (s b)
  refine ⟨O2, S1, g4, Go.trans ?_ go4⟩
  exact ⟨fun _ _ h _ => .inl h, fun _ h => h, fun _ h => h, fun b h => .inl (a1 b (b1 b h)), a2, fun b h => (a3 b h).imp id .inl⟩
/-- the change, with what surrounds it -/
theorem mut_ok {u : List D → D → Option (List D)} {w : List V → V → List V} (ok : MutOk u w) {i : Nat} {ks : List Nat} {r : MD} {v v0 t : V} {m : Md} {d0 dt : D} (p : Pst C L P σ ev O S H [r] ev1 [v] τ O1 S1 H1) (hi : τ[i]? = some (some v0)) (he : ev1[i]? = some (some (m, d0))) (hg : getP ks d0 = some dt) (hat : At H1 d0 v0 ks dt t)
    (h : mutG u i ks r ev1 = some ev2) : ∃ q us ds, t = .ref q ∧ dt = .lst ds ∧ H1 q = some (.lst us) ∧ us.length = ds.length ∧ (∃ ds', u ds r.2 = some ds') ∧ ∃ O' S', Pst C L P σ ev O S H [] ev2 [] τ O' S' (upd H1 q (.lst (w us v))) := by
  obtain ⟨v0', e1, pp, f0⟩ := fit_get p.fit he
  rw [hi] at e1
  cases e1
  have hlk : r.1 ≠ .lk := p.nl r (by simp)
  have ilt : i < ev1.length := (List.getElem?_eq_some_iff.mp he).1
  have G : Good C H1 O1 S1 L ((v0, (m, d0)) :: (v, r) :: ents (ev1.set i none) τ) := p.good.perm (by
    show ((v, r) :: ents ev1 τ).Perm _
    exact (pp.cons _).trans (.swap _ _ _))
  have fin : ∀ {md : MD} {O' S' : Ps} {H' : Hp}, Good C H' O' S' L ((v0, md) :: ents (ev1.set i none) τ) → Go O1 S1 H1 O' S' H' → md.1 ≠ .lk → Pst C L P σ ev O S H [] (ev1.set i (some md)) [] τ O' S' H' := fun {md O' S' H'} g go nl => by
    obtain ⟨pq, fq⟩ := fit_put (md := md) p.fit ilt hi
    exact ⟨fq, p.lk.trans (LkS.put fun d z => by cases z; exact nl rfl), rfl, by simp, g.perm pq.symm, p.go.trans go⟩
  unfold mutG at h
  rw [he] at h
  cases m with
  | sh => cases h
  | lk => cases h
  | dp =>
    dsimp only at h
    rw [hg] at h
    split at h
    · rename_i x ds hx
      simp only [Option.some.injEq] at hx
      subst hx
      split at h
      · rename_i ds' hu
        split at h
        · rename_i hd
          cases h
          obtain ⟨q, us, rfl, hq, hl, nx⟩ := G.mutD hd hat
          obtain ⟨O', g2, go2⟩ := nx ds' (w us v) (ok ds us r.2 v ds' hl hu)
          exact ⟨q, us, ds, rfl, rfl, hq, hl, ⟨_, hu⟩, O', S1, fin g2 go2 (by simp)⟩
        · split at h
          · rename_i hk
            subst hk
            cases h
            cases hg
            obtain ⟨O4, S4, g4, b1, b2, b3⟩ := G.toRt
            obtain ⟨q, us, rfl, hq, hl, nx⟩ := g4.mutR hlk
            obtain ⟨O', S', g2, go2⟩ := nx ds' (w us v) (ok ds us r.2 v ds' hl hu)
            cases hat
            refine ⟨q, us, ds, rfl, rfl, hq, hl, ⟨_, hu⟩, O', S', fin g2 (Go.trans ?_ go2) (by simp)⟩
            exact ⟨fun _ _ h _ => .inl h, fun _ h => h, fun _ h => h, fun b h => .inl (b1 b h), b2, fun b h => (b3 b h).imp id .inl⟩
          · cases h
      · cases h
    · cases h
  | rt =>
    cases d0 with
    | lst ds =>
      dsimp only at h
      split at h
      · rename_i hk
        subst hk
        split at h
        · rename_i ds' hu
          cases h
          cases hg
          obtain ⟨q, us, rfl, hq, hl, nx⟩ := G.mutR hlk
          obtain ⟨O', S', g2, go2⟩ := nx ds' (w us v) (ok ds us r.2 v ds' hl hu)
          cases hat
          exact ⟨q, us, ds, rfl, rfl, hq, hl, ⟨_, hu⟩, O', S', fin g2 go2 (by simp)⟩
        · cases h
      · cases h
    | _ => cases h
end
end T6

namespace T6
open PySem PySem.Spec PyProof.Rows L2
variable [Tbl]
def appU (ds : List D) (d : D) : Option (List D) := if ds.length < sizeLine then some (ds ++ [d]) else none
def setU (n : Nat) (ds : List D) (d : D) : Option (List D) := if n < ds.length then some (ds.set n d) else none
def insU (n : Nat) (ds : List D) (d : D) : Option (List D) := if ds.length < sizeLine then some (ds.take n ++ [d] ++ ds.drop n) else none
def clrU (ds : List D) (_ : D) : Option (List D) := some []
def revU (ds : List D) (_ : D) : Option (List D) := some ds.reverse
def popU (ds : List D) (_ : D) : Option (List D) := if ds = [] then none else some ds.dropLast
def pthN : Ev → Option (List Nat) := fun _ => some []
def pthI (i : Nat) (p : Ev → Option (List Nat)) (h : Ev → Option Pv) : Ev → Option (List Nat) := fun ev => match p ev, h ev, ev[i]? with
  | some ks, some pv, some (some (.dp, d0)) => match getP ks d0, pv.d with
    | some d, .int j => (seqD d).bind fun ds => (ixN ds.length j).map fun n => ks ++ [n]
    | _, _ => none
  | _, _, _ => none
def setIS (i : Nat) (p : Ev → Option (List Nat)) (f : Ev → Rs MD) (h : Ev → Option Pv) : Ev → Fl := fun ev => bndS (f ev) fun r ev1 => match p ev1, h ev1, ev1[i]? with
  | some ks, some pv, some (some (m, d0)) => match getP ks d0, pv.d with
    | some (.lst ds), .int j => match ixN ds.length j with
      | some n => match mutG (setU n) i ks r ev1 with
        | some ev2 => .nx ev2
        | none => .no
      | none => .no
    | _, _ => .no
  | _, _, _ => .no
/-- x.append(..) -/
def appE (i : Nat) (f : Ev → Rs MD) : Ev → Rs MD := fun ev => match ev[i]? with
  | some (some (m, .lst _)) => (f ev).bind fun r ev1 => match mutG appU i [] r ev1 with
    | some ev2 => .ok (.dp, .non) ev2
    | none => .no
  | _ => .no
section
variable {K : PySem.W.Frag} {C : Cs} {mg : Str → Option Value} {X : Cx} {W : WX} {a b e : Expr} {H H' H1 H2 : Hp} {O O' O1 O2 S S' S1 S2 L : Ps} {P P' : Nat → Prop} {σ τ : L2.St} {ev ev1 ev2 : Ev} {pos p2 : Pos} {rs rs1 rs2 : List MD} {vs vs1 vs2 : List V} {es : List En}
theorem app_mut : MutOk appU (fun vs v => vs ++ [v]) := fun ds vs d v ds' hl h C H f1 fo r1 r2 => by
  unfold appU at h
  split at h
  · cases h
    exact ⟨f1 ++ (fo ++ []), r1.append ⟨v, [], fo, [], rfl, rfl, r2, rfl, rfl⟩, by simp, by simp⟩
  · cases h
theorem ins_mut {n : Nat} : MutOk (insU n) (fun vs v => vs.take n ++ [v] ++ vs.drop n) := fun ds vs d v ds' hl h C H f1 fo r1 r2 => by
  unfold insU at h
  split at h
  · cases h
    have e : ds = ds.take n ++ ds.drop n := (List.take_append_drop n ds).symm
    rw [e] at r1
    obtain ⟨v1, v2, g1, g2, rfl, rfl, q1, q2⟩ := r1.split
    have lt : (v1 ++ v2).take n = v1 ∧ (v1 ++ v2).drop n = v2 := by
      have l1 : v1.length = (ds.take n).length := q1.length
      have l2 : v2.length = (ds.drop n).length := q2.length
      rw [List.length_take] at l1
      rw [List.length_drop] at l2
      by_cases hn : n ≤ ds.length
      · have : v1.length = n := by omega
        subst this
        exact ⟨by simp, by simp⟩
      · have : v2 = [] := List.length_eq_zero_iff.mp (by omega)
        subst this
        refine ⟨by rw [List.append_nil, List.take_of_length_le (by omega)], by rw [List.append_nil, List.drop_eq_nil_of_le (by omega)]⟩
    show ∃ g, Reps C H (ds.take n ++ [d] ++ ds.drop n) ((v1 ++ v2).take n ++ [v] ++ (v1 ++ v2).drop n) g ∧ _ ∧ _
    rw [lt.1, lt.2]
    refine ⟨(g1 ++ (fo ++ [])) ++ g2, (q1.append (show Reps C H [d] [v] (fo ++ []) from ⟨v, [], fo, [], rfl, rfl, r2, rfl, rfl⟩)).append q2, fun a ha => by simp at ha ⊢; grind, fun nd => ?_⟩
    have : (g1 ++ (fo ++ []) ++ g2).Perm ((g1 ++ g2) ++ fo) := by
      simp only [List.append_nil, List.append_assoc]
      exact List.Perm.append_left g1 List.perm_append_comm
    exact this.nodup_iff.mpr nd
  · cases h
theorem set_mut {n : Nat} : MutOk (setU n) (fun vs v => vs.set n v) := fun ds vs d v ds' hl h C H f1 fo r1 r2 => by
  unfold setU at h
  split at h
  · rename_i hn
    cases h
    obtain ⟨dn, hdn⟩ : ∃ dn, ds[n]? = some dn := ⟨_, List.getElem?_eq_getElem hn⟩
    have key : ∀ {ds : List D} {vs : List V} {f1 : List Addr} {n : Nat}, Reps C H ds vs f1 → n < ds.length → ∃ fl fm fr, f1 = fl ++ (fm ++ fr) ∧ Reps C H (ds.set n d) (vs.set n v) (fl ++ (fo ++ fr)) := by
      intro ds
      induction ds with
      | nil => intro vs f1 n r hn; simp at hn
      | cons x ds ih =>
        intro vs f1 n r hn
        obtain ⟨y, vs', g1, g2, rfl, rfl, q1, q2⟩ := r
        cases n with
        | zero => exact ⟨[], g1, g2, rfl, ⟨v, vs', fo, g2, rfl, rfl, r2, q2⟩⟩
        | succ n =>
          obtain ⟨fl, fm, fr, rfl, r⟩ := ih q2 (by simpa using hn)
          exact ⟨g1 ++ fl, fm, fr, by simp, ⟨y, vs'.set n v, g1, _, rfl, by simp, q1, r⟩⟩
    obtain ⟨fl, fm, fr, rfl, r⟩ := key r1 hn
    refine ⟨_, r, fun a ha => by simp at ha ⊢; grind, fun nd => ?_⟩
    have : ((fl ++ (fo ++ fr))).Sublist (fl ++ (fo ++ fr)) := List.Sublist.refl _
    have pm : ((fl ++ (fm ++ fr)) ++ fo).Perm (fm ++ (fl ++ (fo ++ fr))) := by
      have h1 : ((fl ++ (fm ++ fr)) ++ fo).Perm (fl ++ (fm ++ (fo ++ fr))) := by
        simp only [List.append_assoc]
        exact List.Perm.append_left fl (List.Perm.append_left fm List.perm_append_comm)
      refine h1.trans ?_
      rw [← List.append_assoc, ← List.append_assoc fm]
      exact List.perm_append_comm.append_right _
    exact (List.nodup_append.mp (pm.nodup_iff.mp nd)).2.1
  · cases h
theorem clr_mut : MutOk clrU (fun _ _ => []) := fun ds vs d v ds' hl h C H f1 fo r1 r2 => by
  cases h
  exact ⟨[], ⟨rfl, rfl⟩, by simp, by simp⟩
/-! ### paths -/
def tPth (C : Cs) (i : Nat) (p : Ev → Option (List Nat)) : TE := fun σ H Q => ∃ ev O S L, Fit ev σ ∧ Good C H O S L (ents ev σ) ∧ ∃ m d0 ks dt, ev[i]? = some (some (m, d0)) ∧ p ev = some ks ∧ getP ks d0 = some dt ∧ (ks = [] ∨ m = .dp) ∧ ∀ v0 t, σ[i]? = some (some v0) → At H d0 v0 ks dt t → Q t H
theorem e_pthN {i : Nat} {x : Str} (hv : PE X (.Name x pos) (tVar i)) : PE X (.Name x pos) (tPth C i pthN) := pe_weak hv fun σ H Q => by
  rintro ⟨ev, O, S, L, ft, gd, m, d0, ks, dt, he, hp, hg, hm, q⟩
  cases hp
  cases hg
  obtain ⟨v, e1, _, _⟩ := fit_get ft he
  exact ⟨v, e1, q v v e1 .nil⟩
theorem rdt_uniq {a : Addr} {ws us : List V} (hH : Rd H a (.tup ws)) (q : Rd H a (.tup us)) : ws = us := by
  rcases q with q | ⟨o, q⟩ <;> rcases hH with hH | ⟨o', hH⟩ <;> rw [hH] at q <;> cases q <;> rfl
theorem At.rep {d0 d : D} {v0 v : V} {ks : List Nat} (h : At H d0 v0 ks d v) : ∀ {f0 : List Addr}, Rep RF H d0 v0 f0 → (∀ a ∈ f0, Trk H a) → ∃ f, Rep RF H d v f ∧ ∀ a ∈ f, a ∈ f0 := by
  induction h with
  | nil => exact fun r _ => ⟨_, r, fun _ h => h⟩
  | lst hH h1 h2 _ ih =>
    intro f0 r tk
    obtain ⟨a', vs', fc, e2, rr, q | ⟨q, _⟩⟩ := r
    rotate_left
    · exact q.elim
    cases e2
    obtain ⟨q, rfl⟩ := q
    have := lst_rd q (tk _ List.mem_cons_self)
    rw [hH] at this
    cases this
    obtain ⟨w, f, e3, r3, s3⟩ := rr.get h1
    rw [h2] at e3
    cases e3
    obtain ⟨f', r4, s4⟩ := ih r3 fun b hb => tk b (List.mem_cons_of_mem _ (s3 b hb))
    exact ⟨f', r4, fun b hb => List.mem_cons_of_mem _ (s3 b (s4 b hb))⟩
  | tup hH h1 h2 _ ih =>
    intro f0 r tk
    obtain ⟨a', vs', e2, q, rr⟩ := r
    cases e2
    have := rdt_uniq hH q
    subst this
    obtain ⟨w, f, e3, r3, s3⟩ := rr.get h1
    rw [h2] at e3
    cases e3
    obtain ⟨f', r4, s4⟩ := ih r3 fun b hb => tk b (s3 b hb)
    exact ⟨f', r4, fun b hb => s3 b (s4 b hb)⟩
theorem getP_snoc {n : Nat} : ∀ {ks : List Nat} {d0 d : D}, getP ks d0 = some d → getP (ks ++ [n]) d0 = getP [n] d
  | [], d0, d, h => by cases h; rfl
  | k :: ks, .lst ds, d, h => by
    obtain ⟨x, e1, e2⟩ := Option.bind_eq_some_iff.mp (show (ds[k]?).bind (getP ks) = some d from h)
    show (ds[k]?).bind (getP (ks ++ [n])) = _
    rw [e1]
    exact getP_snoc e2
  | k :: ks, .tup ds, d, h => by
    obtain ⟨x, e1, e2⟩ := Option.bind_eq_some_iff.mp (show (ds[k]?).bind (getP ks) = some d from h)
    show (ds[k]?).bind (getP (ks ++ [n])) = _
    rw [e1]
    exact getP_snoc e2
  | _ :: _, .non, _, h => by cases h
  | _ :: _, .bl _, _, h => by cases h
  | _ :: _, .int _, _, h => by cases h
  | _ :: _, .str _, _, h => by cases h
  | _ :: _, .dct _ _, _, h => by cases h
  | _ :: _, .err _ _, _, h => by cases h
theorem pth_weak {i : Nat} {p : Ev → Option (List Nat)} {h : Ev → Option Pv} : ∀ σ H Q, tPth (KL K) i (pthI i p h) σ H Q → tOp (rIx K) (tPth (KL K) i p) (tP (KL K) h) σ H Q := fun σ H Q => by
  rintro ⟨ev, O, S, L, ft, gd, m, d0, ks, dt, he, hp, hg, hm, q⟩
  unfold pthI at hp
  split at hp
  · rename_i ks0 pv d0' h1 h2 h3
    rw [he] at h3
    cases h3
    split at hp
    · rename_i d j h4 h5
      obtain ⟨ds, e1, e2⟩ := Option.bind_eq_some_iff.mp hp
      obtain ⟨n, e3, rfl⟩ := Option.map_eq_some_iff.mp e2
      refine ⟨ev, O, S, L, ft, gd, .dp, d0, ks0, d, he, h1, h4, .inr rfl, fun v0 t hv hat => ⟨ev, O, S, L, ft, gd, pv, h2, fun y hy => ?_⟩⟩
      obtain ⟨fy, ry⟩ := pv_rep hy
      rw [h5] at ry
      obtain ⟨v0', own, ev0, hent⟩ := slot_ent ft gd he
      rw [hv] at ev0
      cases ev0
      obtain ⟨r0, tk⟩ := hent
      obtain ⟨f, rd, sub⟩ := hat.rep r0 tk
      rw [getP_snoc h4] at hg
      have aty : ∀ {xs : List V} {z : V}, xs.length = ds.length → xs[n]? = some z → atI xs j = some z := fun {xs z} hl hz => by
        unfold atI
        rw [hl, e3]
        exact hz
      cases d with
      | lst es =>
        cases e1
        obtain ⟨a, xs, f1, rfl, rr, qq | ⟨qq, _⟩⟩ := rd
        rotate_left
        · exact qq.elim
        obtain ⟨qq, rfl⟩ := qq
        have hH := lst_rd qq (tk a (sub a List.mem_cons_self))
        obtain ⟨z, e4, e5⟩ := Option.bind_eq_some_iff.mp (show (ds[n]?).bind (getP []) = some dt from hg)
        cases e5
        obtain ⟨w, f', e6, r6, _⟩ := rr.get e4
        exact .inl ⟨a, xs, j, w, rfl, rp_int ry, .inl qq, aty rr.length e6, q v0 w hv (hat.snocL hH e4 e6)⟩
      | tup es =>
        cases e1
        obtain ⟨a, xs, rfl, qq, rr⟩ := rd
        obtain ⟨z, e4, e5⟩ := Option.bind_eq_some_iff.mp (show (ds[n]?).bind (getP []) = some dt from hg)
        cases e5
        obtain ⟨w, f', e6, r6, _⟩ := rr.get e4
        exact .inr (.inl ⟨a, xs, j, w, rfl, rp_int ry, .inl qq, aty rr.length e6, q v0 w hv (hat.snocT qq e4 e6)⟩)
      | _ => cases e1
    · cases hp
  · cases hp
theorem e_pthI {i : Nat} {p : Ev → Option (List Nat)} {h : Ev → Option Pv} (ha : PE X a (tPth (KL X.K) i p)) (hb : PE X b (tP (KL X.K) h)) (hs : PlainIx b) : PE X (.Subscript a b pos) (tPth (KL X.K) i (pthI i p h)) := pe_weak (pe_ix ix_seq ha hb hs) pth_weak
/-! ### storing an item -/
theorem s_setI {i : Nat} {p : Ev → Option (List Nat)} {f : Ev → Rs MD} {h : Ev → Option Pv} (hP : True) (he : PE X e (tE C mg W f)) (ho : PE X a (tPth C i p)) (hi : PE X b (tP C h))
    (ha : ∀ v, assign (.Subscript a b p2) X.env v = (do
      let ov ← holding [v] (eval a X.env)
      let iv ← holding [v, ov] (eval b X.env)
      standAt p2
      holding [v, ov, iv] (setItem ov iv v)
      release [v, ov, iv] []) := by intro _; rfl)
    (hs : swapsWithSole [.Subscript a b p2] e pos.line X.env = pure false := by rfl) (hw : swappedStores [.Subscript a b p2] e X.env = pure none := by rfl)
    (h1 : (assignEach [.Subscript a b p2] X.env).map (·.2) = [assign (.Subscript a b p2) X.env] := by rfl) : PS X (.Assign [.Subscript a b p2] e pos) (tS C mg P W (setIS i p f h)) :=
  ps_weak (ps_asg he (pg_sub ho hi set_list ha) hs hw h1) fun D σ H => by
  rintro ⟨ev, O, S, L, ft, gd, k⟩
  refine ⟨ev, O, S, L, ft, gd, aftS_bind k fun r ev1 k1 v H1 O1 S1 p1 => ?_⟩
  obtain ⟨OE, g1, nx⟩ := p1.next
  split at k1
  · rename_i ks pv m d0 e1 e2 e3
    split at k1
    · rename_i ds j e4 e5
      split at k1
      · rename_i n e6
        split at k1
        · rename_i ev2 e7
          have hks : ks = [] ∨ m = .dp := by
            cases m with
            | dp => exact .inr rfl
            | rt =>
              unfold mutG at e7
              rw [e3] at e7
              cases d0 with
              | lst _ =>
                dsimp only at e7
                split at e7
                · rename_i z; exact .inl z
                · cases e7
              | _ => cases e7
            | sh => unfold mutG at e7; rw [e3] at e7; cases e7
            | lk => unfold mutG at e7; rw [e3] at e7; cases e7
          refine ⟨ev1, OE, S1, L, p1.fit, g1, m, d0, ks, _, e3, e1, e4, hks, fun v0 t hv hat => ⟨ev1, OE, S1, L, p1.fit, g1, pv, e2, fun y hy => ?_⟩⟩
          obtain ⟨fy, ry⟩ := pv_rep hy
          rw [e5] at ry
          obtain ⟨q, us, ds2, rfl, ed, hq, hl, _, O', S', p2⟩ := mut_ok set_mut (p1.all (P := P)) hv e3 e4 hat e7
          cases ed
          exact ⟨q, us, j, n, rfl, rp_int ry, hq, by rw [hl]; exact e6, k1 σ O' S' _ p2⟩
        · exact k1.elim
      · exact k1.elim
    · exact k1.elim
  · exact k1.elim
theorem r_app {i : Nat} {f : Ev → Rs MD} {x : Str} {apos p1 : Pos} (hv : PE X (.Name x p1) (tVar i)) (he : PE X e (tE (KL X.K) mg W f))
    (hbase : attributeBase (.Name x p1) "append" X.env (eval (.Name x p1) X.env) = eval (.Name x p1) X.env := by rfl)
    (hfew : ((backTo pos (starEach [e] X.env)).all (fun x => !x.1) && (backToKw pos (keywordEach [] X.env)).all (fun x => x.1.isSome)
      && decide ([e].length + ([] : List Keyword).length + (if ([] : List Keyword).isEmpty then 0 else 1) < 30)) = true := by rfl)
    (hline : (apos.endLine == pos.line) = true := by rfl) (hs : starEach [e] X.env = (false, eval e X.env) :: starEach [] X.env := by rfl) (hplain : (backTo pos (starEach [] X.env)).any (·.1) = false := by rfl) :
    PE X (.Call (.Attribute (.Name x p1) "append" apos) [e] [] pos) (tE (KL X.K) mg W (appE i f)) :=
  pe_weak (pe_bm PySem.F.plainAttrs_list PySem.F.slot_list_append PySem.F.type_list_append mt_append hv (pa_cons he pa_nil hs) hbase hfew hline hs hplain) fun σ H Q => by
  rintro ⟨ev, O, S, L, ft, gd, k⟩
  unfold appE at k
  split at k
  · rename_i m ds e0
    obtain ⟨v0, own, e1, hent⟩ := slot_ent ft gd e0
    obtain ⟨f0, r0⟩ := hent.rep
    obtain ⟨a0, xs0, f1, rfl, rr0, q0⟩ := r0
    refine ⟨.ref a0, e1, .inl ⟨rfl, xs0, sq_of q0⟩, ev, O, S, L, ft, gd, aft_bind k fun r ev1 k1 v H1 O1 S1 p1 => ?_⟩
    split at k1
    · rename_i ev2 e7
      obtain ⟨m', d0', e3⟩ : ∃ m' d0', ev1[i]? = some (some (m', d0')) := by
        unfold mutG at e7
        split at e7
        · rename_i d0 h; exact ⟨_, _, h⟩
        · rename_i d0 h; exact ⟨_, _, h⟩
        · cases e7
      obtain ⟨q, us, ds2, eq, ed, hq, hl, ⟨ds', hu⟩, O', S', p2⟩ := mut_ok (ks := []) app_mut p1 e1 e3 rfl .nil e7
      have eq : a0 = q := by injection eq
      subst eq
      cases ed
      unfold appU at hu
      split at hu
      · rename_i hz
        refine ⟨_, us, v, rfl, rfl, hq, by rw [hl]; exact hz, ?_⟩
        obtain ⟨O4, p4⟩ := p2.flat (d := .non) (v := .non) (f := []) rfl ⟨rfl, rfl⟩
        exact k1 _ _ _ _ p4
      · cases hu
    · exact k1.elim
  · exact k.elim
end
end T6

namespace T6
open PySem PySem.Spec PyProof.Rows L2
variable [Tbl]
/-- a tuple taken apart -/
def unpG (tgs : List Nat) (m : Md) (d : D) (ev : Ev) : Fl := match d with
  | .tup ds => if ds.length = tgs.length ∧ (∀ i ∈ tgs, i < ev.length) then .nx (asgn tgs (ds.map (childM m)) ev) else .no
  | _ => .no
def unpV (tgs : List Nat) (f : Ev → Option Pv) : Ev → Fl := fun ev => match vwI f ev with
  | some (m, d) => unpG tgs m d ev
  | none => .no
def unpM (tgs : List Nat) (f : Ev → Rs MD) : Ev → Fl := fun ev => bndS (f ev) fun r ev1 => unpG tgs .sh r.2 ev1
def gIsT (T : String) (d : D) : Option D := if isErr d = false then some (.bl (isT T d)) else none
section
variable {K : PySem.W.Frag} {C : Cs} {mg : Str → Option Value} {X : Cx} {W : WX} {a b e : Expr} {H H' H1 H2 : Hp} {O O' O1 O2 S S' S1 S2 L : Ps} {P P' : Nat → Prop} {σ τ : L2.St} {ev ev1 ev2 : Ev} {pos p2 : Pos} {rs rs1 rs2 : List MD} {vs vs1 vs2 : List V} {es : List Expr}
theorem takes0 {X : Cx} : Takes X W0 := fun u s' ⟨a, B, sI, pins, σ, H, cls, d, e, I, nb, up, sky, na, os, ag, w⟩ => w.elim
theorem lockE_weak {i : Nat} {g : Ev → Rs MD} : ∀ σ H Q, tE C mg W (lockS i g) σ H Q → tE C mg W g σ H Q := fun σ H Q => by
  rintro ⟨ev, O, S, L, ft, gd, k⟩
  obtain ⟨ev', OE, L', f1, g1, R, cv, af⟩ := lockW ft gd k
  refine ⟨ev', OE, S, L', f1, g1, ?_⟩
  cases hg : g ev' with
  | ok r ev2 =>
    rw [hg] at af
    intro v H' O' S' p
    obtain ⟨O3, p3⟩ := cv _ _ _ _ _ _ p (.inl ⟨r, hg⟩)
    exact af.2 v H' O3 S' p3
  | ex c q ev2 => rw [hg] at af; exact af
  | no => rw [hg] at af; exact af
theorem unp_ok {tgs : List Nat} {m : Md} {d : D} {v : V} {fp : List Addr} {g : TG} {D : Ends} {n : Nat} (tk : TgOk (KL K) K false P tgs g) (ft : Fit ev σ) (gd : Good (KL K) H O S L (ents ev σ)) (hm : m = .lk ∨ m = .sh) (r : Rep (KL K) H d v fp) (s : ∀ a ∈ fp, L a ∨ S a) (s2 : m = .sh → ∀ a ∈ fp, S a)
    (k : AftS (KL K) mg P σ ev O S L H W D (unpG tgs m d ev)) : g v σ H D.nx := by
  unfold unpG at k
  split at k
  · rename_i ds
    split at k
    · rename_i hc
      obtain ⟨a, xs, rfl, hq, rr⟩ := r
      refine tk (.ref a) (ds.map (childM m)) σ ev O S L H _ ft gd ⟨a, xs, rfl, .inl hq, by rw [rr.length, List.length_map], fun j y rr2 h1 h2 => ?_⟩ (by rw [List.length_map]; exact hc.1) hc.2 fun τ' O' p => k τ' O' S H p
      rw [List.getElem?_map] at h2
      obtain ⟨d2, hd2, rfl⟩ := Option.map_eq_some_iff.mp h2
      obtain ⟨v2, f2, e1, r2, sb⟩ := rr.get hd2
      rw [h1] at e1
      cases e1
      exact child_lt hm r2 (fun a ha => s a (sb a ha)) fun z a ha => s2 z a (sb a ha)
    · exact k.elim
  · exact k.elim
theorem s_unpV {tgs : List Nat} {tg : Expr} {g : TG} {f : Ev → Option Pv} (he : PE X e (tP (KL X.K) f)) (hg : PG X tg g) (tk : TgOk (KL X.K) X.K false P tgs g)
    (hs : swapsWithSole [tg] e pos.line X.env = pure false := by rfl) (hw : swappedStores [tg] e X.env = pure none := by rfl)
    (h1 : (assignEach [tg] X.env).map (·.2) = [assign tg X.env] := by rfl) : PS X (.Assign [tg] e pos) (tS (KL X.K) mg P W (unpV tgs f)) := ps_weak (ps_asg he hg hs hw h1) fun D σ H => by
  rintro ⟨ev, O, S, L, ft, gd, k⟩
  unfold unpV at k
  split at k
  · rename_i m d hv
    obtain ⟨p, hp, _, hm, ok⟩ := vwI_ok (C := KL X.K) (H := H) (S := S) (L := L) (σ := σ) hv
    refine ⟨ev, O, S, L, ft, gd, p, hp, fun v hx => ?_⟩
    obtain ⟨fp, r, s, s2⟩ := ok v hx
    exact unp_ok (n := 0) tk ft gd hm r s s2 k
  · exact k.elim
theorem s_unpM {tgs : List Nat} {tg : Expr} {g : TG} {f : Ev → Rs MD} (he : PE X e (tE (KL X.K) mg W f)) (hg : PG X tg g) (tk : TgOk (KL X.K) X.K false P tgs g)
    (hs : swapsWithSole [tg] e pos.line X.env = pure false := by rfl) (hw : swappedStores [tg] e X.env = pure none := by rfl)
    (h1 : (assignEach [tg] X.env).map (·.2) = [assign tg X.env] := by rfl) : PS X (.Assign [tg] e pos) (tS (KL X.K) mg P W (unpM tgs f)) := ps_weak (ps_asg he hg hs hw h1) fun D σ H => by
  rintro ⟨ev, O, S, L, ft, gd, k⟩
  refine ⟨ev, O, S, L, ft, gd, aftS_bind k fun r ev1 k1 v H1 O1 S1 p => ?_⟩
  obtain ⟨O2, S2, fp, q, rr, ss, _⟩ := Pst.shareLast (rs1 := []) (vs1 := []) p rfl
  exact unp_ok (n := 0) (ev := ev1) (H := H1) (S := S2) (O := O2) tk q.fit q.good (.inr rfl) rr (fun a ha => .inr (ss a ha)) (fun _ => ss) (aftS_next q.all k1)
section
variable {elt tg iter : Expr} {ifs : List Expr} {scope : Scope} {own : List (Str × Nat)} {nm : Bool} {src : Ev → Rs (List (List MD))} {tgs : List Nat} {test : Ev → Rs Bool} {el G : Ev → Rs MD} {g : TG}
theorem s_setLcG {i : Nat} {y : Str} {py spos : Pos} (hP : ¬ P i) (hc : X.calm = true) (hN : X.N.Nodup) (hy : X.N[i]? = some y) (hyl : X.env.scope.names.lookup y = some .local)
    (hsw : swapsWith (.ListComp elt [⟨tg, iter, ifs, 0⟩] scope pos) (some (.Name y py)) spos.line X.env = pure true) (hi : PI X tg iter (tI C X.K mg W nm src)) (ok : BlkOk X.N X.env.scope scope own) (tk : TgOk C X.K nm (fun j => j ∉ own.map (·.2)) tgs g)
    (hG : ∀ σ H Q, tE C mg W G σ H Q → tE C mg W (lcM src tgs (own.map (·.2)) test el) σ H Q)
    (hg : ∀ (s : Shared) (H : Hp) (A : Addr) (cl : List (Str × Addr)) (fp : List Addr), PG (X.blk s H scope (compEnvC scope cl A X.env) fp) tg g)
    (ht : ∀ (s : Shared) (H : Hp) (A : Addr) (cl : List (Str × Addr)) (fp : List Addr), PTs (X.blk s H scope (compEnvC scope cl A X.env) fp) ifs (tBM C mg W0 test))
    (he : ∀ (s : Shared) (H : Hp) (A : Addr) (cl : List (Str × Addr)) (fp : List Addr), PE (X.blk s H scope (compEnvC scope cl A X.env) fp) elt (tE C mg W0 el)) (hs : ∀ x, foldedSetIterable iter X.env x = pure x := by intro _; rfl) :
    PS X (.Assign [.Name y py] (.ListComp elt [⟨tg, iter, ifs, 0⟩] scope pos) spos) (tS C mg P W (setS i G)) := ps_weak (ps_setLc hc hN hy hyl hsw hi ok hg ht he hs) fun D σ H => by
  rintro ⟨ev, O, S, L, ft, gd, k⟩
  refine lc_weak tk σ H (fun x H1 => gName i x σ H1 D.nx) (hG σ H _ ⟨ev, O, S, L, ft, gd, aftS_bind k fun r ev1 k1 v H' O' S' p => ?_⟩)
  split at k1
  · rename_i hl
    obtain ⟨O2, q⟩ := (p.all (P := P)).store hl hP
    exact k1 _ O2 S' H' q
  · exact k1.elim
end
/-! ### isinstance -/
variable {t1 : TE} {F1 : ∀ {α : Type}, Arp α → Arp α} {x : Str} {p q : Pos}
theorem k_isi {T : String} (hT : T ∈ ["int", "bool", "list", "tuple", "str"]) : KOk (KL K) (fun vs H Q => ∃ x, vs = [x] ∧ rIsi K [x, .ty T] H Q) (kF1 (gIsT T)) := fun mg W σ ev O S L H as vs tvs trs ev2 O2 S2 H2 Q p ar af => by
  unfold kF1 at af
  split at af
  · rename_i s a
    obtain ⟨x, fp, rfl, rfl, rfl, r1, _⟩ := argR_vals1 ar
    unfold gIsT at af
    by_cases ne : isErr a = false
    case neg => rw [if_neg ne] at af; exact af.elim
    rw [if_pos ne] at af
    refine ⟨x, rfl, prl_isi hT H2 x a fp Q ne r1 ?_⟩
    obtain ⟨O4, p4⟩ := p.flat (d := .bl (isT T a)) (v := .bl (isT T a)) (f := []) rfl ⟨rfl, rfl⟩
    exact af _ H2 O4 S2 p4
  · exact af.elim
theorem e_isi {T : String} {t : Str} (hT : T ∈ ["int", "bool", "list", "tuple", "str"]) (hg : Gl X "isinstance") (hm : X.mg "isinstance" = none) (hv : bootBuiltins "isinstance" = some (.builtin "isinstance")) (ha : PE X a t1) (w1 : OpdW (KL X.K) mg W t1 F1) (hb : PE X (.Name t q) (tC (.ty T)))
    (he : starEach [a, .Name t q] X.env = (false, eval a X.env) :: starEach [.Name t q] X.env := by rfl) (he2 : starEach [.Name t q] X.env = (false, eval (.Name t q) X.env) :: starEach [] X.env := by rfl) (hpl : (backTo pos (starEach [.Name t q] X.env)).any (·.1) = false := by rfl) :
    PE X (.Call (.Name "isinstance" p) [a, .Name t q] [] pos) (tE (KL X.K) mg W (opA (kF1 (gIsT T)) (F1 aNil))) :=
  pe_weak (pe_callB call_isi hg hm hv (pa_cons ha (pa_cons hb pa_nil he2) he) (by decide) (by decide) he hpl) fun σ H Q z => by
    have z := tcb_weak (k_isi (K := X.K) hT) (aw_cons w1 aw_nil) σ H Q z
    refine cast ?_ z
    show t1 σ H (fun x H1 => ∃ x', [x] = [x'] ∧ rIsi X.K [x', .ty T] H1 Q) = t1 σ H fun x H1 => rIsi X.K [x, .ty T] H1 Q
    congr 1; funext x H1
    apply propext
    constructor
    · rintro ⟨x', e, q⟩; cases e; exact q
    · exact fun q => ⟨x, rfl, q⟩
theorem e_ty_name {t : Str} {T : String} {u : Value} (hg : Gl X t) (hm : X.mg t = none) (hv : bootBuiltins t = some u) (r : RelV (.ty T) u) (hn : t ≠ "__name__" := by decide) (hd : (t == ("__debug__" : Str)) = false := by decide) : PE X (.Name t q) (tC (.ty T)) := pe_bltn hg hm hv r hn hd
end
end T6

namespace T6
open PySem PySem.Spec PyProof.Rows L2
variable [Tbl]
/-- a def as the top has left it -/
structure Fd (K : PySem.W.Frag) (mg : Str → Option Value) (nm : Str) (st : Stmt) (ps : List Str) (f : Addr) (fd : FuncData) : Prop where
  fn : Fun K nm nm st f fd
  b : Binds K fd ps []
  g : mg nm = some (.ref f)
theorem FnOk.up {P : Program} {w : World} {K : PySem.W.Frag} {mg : Str → Option Value} {base : Heap} {CX : CXT} {j k : Nat} {f : Addr} {fd : FuncData} {ps : List Str} {sp : Sp} (F : FnOk P w K mg base CX j f fd ps sp) (h : j ≤ k) : FnOk P w K mg base CX k f fd ps sp :=
  ⟨F.len, fun A outer s H args us vs Q E hr => F.run A outer s H args us vs Q E (hr.mono h)⟩
theorem Room.u65 {k : Nat} {A : Around} (r : Room k A) : A.units + 65 < cLine := by have := r.un; omega
section
variable {K : PySem.W.Frag} {C : Cs} {mg : Str → Option Value} {X : Cx} {W : WX} {a b e : Expr} {H H' H1 H2 : Hp} {O O' O1 O2 S S' S1 S2 L : Ps} {P P' : Nat → Prop} {σ τ : L2.St} {ev ev1 ev2 : Ev} {pos : Pos} {rs rs1 rs2 : List MD} {vs vs1 vs2 : List V} {es : List Expr}
theorem ow_mv {i : Nat} : OpdW C mg W (tVar i) (fun A => aM i A) := fun α A tr w σ H Q => by
  rintro ⟨k, R, ev0, O0, S0, H0, L, rs0, vs0, ev1, O1, S1, p, af, fin⟩
  have af : Aft C mg σ ev0 O0 S0 L H0 W (aM i A k ev1) R := af
  unfold aM at af
  split at af
  · rename_i md he
    obtain ⟨v, e1, _, _⟩ := fit_get p.fit he
    exact ⟨v, e1, w σ H _ ⟨fun as => k (.mv i :: as), R, ev0, O0, S0, H0, L, rs0, vs0, ev1, O1, S1, p, af, fun as vs tvs trs ev3 O4 S4 H4 p4 kp ar af4 =>
      fin (.mv i :: as) (v :: vs) tvs trs ev3 O4 S4 H4 p4 kp (.mv e1 ar) af4⟩⟩
  · exact af.elim
variable {ts : TA} {B : ∀ {α : Type}, Arp α} {x : Str} {p : Pos} {id T : String} {r : RL} {g : D → Option D} {g2 : D → D → Option D} {f h : Ev → Option Pv}
theorem a_of {α : Type} (ha : PA X es ts) (w : ArgsW C mg W ts B) : PA X es (tAC C mg W (B (α := α))) := pa_weak ha (w α)
theorem p_cb (hc : CallR X (.builtin id) r) (pr : PrL1 C r g) (hg : Gl X x) (hm : X.mg x = none) (hv : bootBuiltins x = some (.builtin id)) (ha : PE X a (tP C f)) (hn : x ≠ "__name__" := by decide) (hdb : (x == ("__debug__" : Str)) = false := by decide)
    (he : starEach [a] X.env = (false, eval a X.env) :: starEach [] X.env := by rfl) (hpl : (backTo pos (starEach [] X.env)).any (·.1) = false := by rfl) : PE X (.Call (.Name x p) [a] [] pos) (tP C (p1 g f)) := pe_weak (pe_callB hc hg hm hv (pa_cons ha pa_nil he) hn hdb he hpl) (pa1 pr)
theorem p_ty (hc : CallR X (.type T) r) (pr : PrL1 C r g) (hg : Gl X x) (hm : X.mg x = none) (hv : bootBuiltins x = some (.type T)) (ha : PE X a (tP C f)) (hn : x ≠ "__name__" := by decide) (hdb : (x == ("__debug__" : Str)) = false := by decide)
    (he : starEach [a] X.env = (false, eval a X.env) :: starEach [] X.env := by rfl) (hpl : (backTo pos (starEach [] X.env)).any (·.1) = false := by rfl) : PE X (.Call (.Name x p) [a] [] pos) (tP C (p1 g f)) := pe_weak (pe_callTy hc hg hm hv (pa_cons ha pa_nil he) hn hdb he hpl) (pa1 pr)
theorem p_cb2 (hc : CallR X (.builtin id) r) (pr : PrL2 C r g2) (hg : Gl X x) (hm : X.mg x = none) (hv : bootBuiltins x = some (.builtin id)) (ha : PE X a (tP C f)) (hb : PE X b (tP C h)) (hn : x ≠ "__name__" := by decide) (hdb : (x == ("__debug__" : Str)) = false := by decide)
    (he : starEach [a, b] X.env = (false, eval a X.env) :: starEach [b] X.env := by rfl) (he2 : starEach [b] X.env = (false, eval b X.env) :: starEach [] X.env := by rfl) (hpl : (backTo pos (starEach [b] X.env)).any (·.1) = false := by rfl) : PE X (.Call (.Name x p) [a, b] [] pos) (tP C (p2 g2 f h)) := pe_weak (pe_callB hc hg hm hv (pa_cons ha (pa_cons hb pa_nil he2) he) hn hdb he hpl) (pa2 pr)
end
theorem blk_of {N : List Str} {sc scope : Scope} {own : List (Str × Nat)} (h0 : scope.kind = .function) (h1 : decide (∀ y ∈ scope.names, scope.names.lookup y.1 = some y.2) = true) (h2 : decide (∀ p ∈ own, N[p.2]? = some p.1) = true)
    (h3 : decide (∀ y ∈ scope.names, y.2 = .free → sc.names.lookup y.1 = some .cell ∨ sc.names.lookup y.1 = some .free) = true) (h4 : decide (∀ y ∈ scope.names, y.2 = .local ∨ y.2 = .cell → y.1 ∈ own.map (·.1) ∨ y.1 ∉ N) = true) : BlkOk N sc scope own :=
  ⟨h0, of_decide_eq_true h1, of_decide_eq_true h2, of_decide_eq_true h3, of_decide_eq_true h4⟩
/-- the law's own promise, by what its def does -/
def spLaw (K : PySem.W.Frag) (n : Nat) : Sp := fun vs H Q _ => ∃ (a : Addr) (ns : List Int), vs = [.ref a] ∧ SqL K H a (ns.map V.int) ∧ ns.length ≤ n ∧ (∀ P, Tbl.tb P → LamX.TabS H P QL) ∧ ∀ v H', v = .bl true → Q v H'
/-- .. where no table of code objects is known -/
def spLaw0 (K : PySem.W.Frag) (n : Nat) : Sp := @spLaw ⟨fun _ => False⟩ K n
theorem law_sp {K : PySem.W.Frag} {mg : Str → Option Value} {F : List MD → Rf} {n : Nat} (h : ∀ ns : List Int, ns.length ≤ n → ∃ m fs, F [(Md.sh, .lst (ns.map D.int))] = .ok (m, .bl true) fs) : ∀ vs H Q E, spLaw K n vs H Q E → spF (KL K) mg F vs H Q E := fun vs H Q E ⟨a, ns, e, sq, hl, ht, q⟩ => by
  subst e
  obtain ⟨m, fs, hF⟩ := h ns hl
  have go : ∀ (S : Ps) (fp : List Addr), Rep (KL K) H (.lst (ns.map D.int)) (.ref a) fp → (∀ b, S b ↔ b ∈ fp) → spF (KL K) mg F [.ref a] H Q E := fun S fp r hS => by
    refine ⟨[(Md.sh, .lst (ns.map D.int))], fun _ => False, S, fun _ => False, rfl, ⟨⟨[], ⟨[], [], rfl, ⟨rfl, fp, r, fun b hb => (hS b).mpr hb⟩, rfl⟩, List.nodup_nil, fun b => by simp⟩, fun _ z => z.elim, fun _ _ z => z, fun b hb => ?_, ht⟩, ?_⟩
    · rcases hb with hb | hb
      · exact rep_live r b ((hS b).mp hb)
      · exact hb.elim
    · rw [hF]
      intro v H' O' S' p
      obtain ⟨fp2, r2⟩ := p.rep1
      exact q v H' (rp_bl r2)
  rcases sq with sq | sq
  · exact go (fun b => b = a) [a] ⟨a, ns.map V.int, [], rfl, reps_of_ints, .inl ⟨sq, rfl⟩⟩ (by simp)
  · exact go (fun _ => False) [] ⟨a, ns.map V.int, [], rfl, reps_of_ints, .inr ⟨sq, rfl⟩⟩ (by simp)
omit [Tbl] in
theorem cx_false {P : Program} {w : World} {H : Hp} {s : Shared} {e : Value} {s' : Shared} (h : L2.CX P w [] H s (fun _ _ _ => False) e s') : False := by
  obtain ⟨_, _, _, _, _, _, _, _, _, _, _, _, z⟩ := h
  exact z
end T6

namespace T6
open PySem PySem.Spec PyProof.Rows L2
variable [Tbl]
/-! ### running what is printed -/
def setIG (i : Nat) (p : Ev → Option (List Nat)) (h : Ev → Option Pv) (r : MD) (ev1 : Ev) : Fl := match p ev1, h ev1, ev1[i]? with
  | some ks, some pv, some (some (m, d0)) => match getP ks d0, pv.d with
    | some (.lst ds), .int j => match ixN ds.length j with
      | some n => match mutG (setU n) i ks r ev1 with
        | some ev2 => .nx ev2
        | none => .no
      | none => .no
    | _, _ => .no
  | _, _, _ => .no
/-! what follows, by name: so that nobody looks into it before its time -/
def exprK (_ : MD) (ev : Ev) : Fl := .nx ev
def retK (r : MD) (ev : Ev) : Fl := .rt r ev
def setK (i : Nat) (r : MD) (ev1 : Ev) : Fl := if i < ev1.length then .nx (ev1.set i (some r)) else .no
def ifK (s t : Ev → Fl) (b : Bool) (ev1 : Ev) : Fl := if b = true then s ev1 else t ev1
def consK2 (a : MD) (as : List MD) (ev2 : Ev) : Rs (List MD) := .ok (a :: as) ev2
def consK (h : Ev → Rs (List MD)) (a : MD) (ev1 : Ev) : Rs (List MD) := (h ev1).bind (consK2 a)
def tupK (as : List MD) (ev1 : Ev) : Rs MD := if as.length ≤ sizeLine then .ok (if allD as = true then .dp else .sh, .tup (as.map (·.2))) ev1 else .no
def lstK (as : List MD) (ev1 : Ev) : Rs MD := if as.length ≤ sizeLine then .ok (if allD as = true then .dp else .rt, .lst (as.map (·.2))) ev1 else .no
def bK (a : MD) (ev1 : Ev) : Rs Bool := match a.2 with
  | .bl b => .ok b ev1
  | _ => .no
def notK (a : Bool) (ev1 : Ev) : Rs Bool := .ok (!a) ev1
def andK (h : Ev → Rs Bool) (a : Bool) (ev1 : Ev) : Rs Bool := if a = true then h ev1 else .ok false ev1
def orK (h : Ev → Rs Bool) (a : Bool) (ev1 : Ev) : Rs Bool := if a = true then .ok true ev1 else h ev1
def ofK (a : Bool) (ev1 : Ev) : Rs MD := .ok (.dp, .bl a) ev1
def ifMK (f h : Ev → Rs MD) (a : Bool) (ev1 : Ev) : Rs MD := if a = true then f ev1 else h ev1
def pushK {α : Type} (a : Ag) (k : List Ag → Ev → Rs α) (as : List Ag) : Ev → Rs α := k (a :: as)
def aTK {α : Type} (A : Arp α) (k : List Ag → Ev → Rs α) (r : MD) (ev1 : Ev) : Rs α := A (pushK (.tp r) k) ev1
def aLK {α : Type} (A : Arp α) (k : List Ag → Ev → Rs α) (r : MD) (ev1 : Ev) : Rs α := A (pushK (.vl true r.2) k) ev1
def tupAK {α : Type} (A : Arp α) (k : List Ag → Ev → Rs α) (as : List Ag) (ev1 : Ev) : Rs α := match valsA as with
  | some (s, ds) => if ds.length ≤ sizeLine then A (pushK (.vl s (.tup ds)) k) ev1 else .no
  | none => .no
def srcK (nm : Bool) (r : MD) (ev1 : Ev) : Rs (List (List MD)) := match itsD nm .sh r.2 with
  | some is => .ok is ev1
  | none => .no
def lcE (own : List Nat) (ev1 : Ev) (x : Rs MD) : Rs MD := match x with
  | .ok r ev2 => .ok r (restE own ev1 (wipeE own ev2))
  | _ => .no
def lcK (tgs own : List Nat) (test : Ev → Rs Bool) (elt : Ev → Rs MD) (items : List (List MD)) (ev1 : Ev) : Rs MD := lcE own ev1 (lcG tgs own test elt items (.dp, .lst []) (wipeE own ev1))
def unpK (tgs : List Nat) (r : MD) (ev1 : Ev) : Fl := unpG tgs .sh r.2 ev1
def appK (i : Nat) (r : MD) (ev1 : Ev) : Rs MD := match mutG appU i [] r ev1 with
  | some ev2 => .ok (.dp, .non) ev2
  | none => .no
@[simp] theorem k1 {r : MD} {ev : Ev} : exprK r ev = .nx ev := rfl
@[simp] theorem k2 {r : MD} {ev : Ev} : retK r ev = .rt r ev := rfl
@[simp] theorem k3 {i : Nat} {r : MD} {ev1 : Ev} : setK i r ev1 = if i < ev1.length then .nx (ev1.set i (some r)) else .no := rfl
@[simp] theorem k4 {s t : Ev → Fl} {ev : Ev} : ifK s t true ev = s ev := rfl
@[simp] theorem k5 {s t : Ev → Fl} {ev : Ev} : ifK s t false ev = t ev := rfl
theorem ifK_b {s t : Ev → Fl} {b : Bool} {ev : Ev} : ifK s t b ev = if b = true then s ev else t ev := rfl
@[simp] theorem k6 {h : Ev → Rs (List MD)} {a : MD} {ev1 : Ev} : consK h a ev1 = (h ev1).bind (consK2 a) := rfl
@[simp] theorem k7 {a : MD} {as : List MD} {ev1 : Ev} : consK2 a as ev1 = .ok (a :: as) ev1 := rfl
@[simp] theorem k8 {as : List MD} {ev1 : Ev} : tupK as ev1 = if as.length ≤ sizeLine then .ok (if allD as = true then .dp else .sh, .tup (as.map (·.2))) ev1 else .no := rfl
@[simp] theorem k9 {as : List MD} {ev1 : Ev} : lstK as ev1 = if as.length ≤ sizeLine then .ok (if allD as = true then .dp else .rt, .lst (as.map (·.2))) ev1 else .no := rfl
@[simp] theorem k10 {m : Md} {b : Bool} {ev1 : Ev} : bK (m, .bl b) ev1 = .ok b ev1 := rfl
@[simp] theorem k11 {a : Bool} {ev1 : Ev} : notK a ev1 = .ok (!a) ev1 := rfl
@[simp] theorem k12 {h : Ev → Rs Bool} {ev : Ev} : andK h true ev = h ev := rfl
@[simp] theorem k13 {h : Ev → Rs Bool} {ev : Ev} : andK h false ev = .ok false ev := rfl
@[simp] theorem k14 {h : Ev → Rs Bool} {ev : Ev} : orK h true ev = .ok true ev := rfl
@[simp] theorem k15 {h : Ev → Rs Bool} {ev : Ev} : orK h false ev = h ev := rfl
@[simp] theorem k16 {a : Bool} {ev1 : Ev} : ofK a ev1 = .ok (.dp, .bl a) ev1 := rfl
@[simp] theorem k17 {f h : Ev → Rs MD} {ev : Ev} : ifMK f h true ev = f ev := rfl
@[simp] theorem k18 {f h : Ev → Rs MD} {ev : Ev} : ifMK f h false ev = h ev := rfl
@[simp] theorem k19 {α : Type} {a : Ag} {k : List Ag → Ev → Rs α} {as : List Ag} {ev : Ev} : pushK a k as ev = k (a :: as) ev := rfl
@[simp] theorem k20 {α : Type} {A : Arp α} {k : List Ag → Ev → Rs α} {r : MD} {ev1 : Ev} : aTK A k r ev1 = A (pushK (.tp r) k) ev1 := rfl
@[simp] theorem k21 {α : Type} {A : Arp α} {k : List Ag → Ev → Rs α} {r : MD} {ev1 : Ev} : aLK A k r ev1 = A (pushK (.vl true r.2) k) ev1 := rfl
@[simp] theorem k22 {α : Type} {A : Arp α} {k : List Ag → Ev → Rs α} {as : List Ag} {ev1 : Ev} : tupAK A k as ev1 = (match valsA as with
  | some (s, ds) => if ds.length ≤ sizeLine then A (pushK (.vl s (.tup ds)) k) ev1 else .no
  | none => .no) := rfl
@[simp] theorem k23 {nm : Bool} {r : MD} {ev1 : Ev} : srcK nm r ev1 = (match itsD nm .sh r.2 with
  | some is => .ok is ev1
  | none => .no) := rfl
@[simp] theorem k24 {own : List Nat} {ev1 ev2 : Ev} {r : MD} : lcE own ev1 (.ok r ev2) = .ok r (restE own ev1 (wipeE own ev2)) := rfl
@[simp] theorem k25 {tgs own : List Nat} {test : Ev → Rs Bool} {elt : Ev → Rs MD} {items : List (List MD)} {ev1 : Ev} : lcK tgs own test elt items ev1 = lcE own ev1 (lcG tgs own test elt items (.dp, .lst []) (wipeE own ev1)) := rfl
@[simp] theorem k26 {tgs : List Nat} {r : MD} {ev1 : Ev} : unpK tgs r ev1 = unpG tgs .sh r.2 ev1 := rfl
@[simp] theorem k27 {i : Nat} {r : MD} {ev1 : Ev} : appK i r ev1 = (match mutG appU i [] r ev1 with
  | some ev2 => .ok (.dp, .non) ev2
  | none => .no) := rfl
/-- what follows, where it follows -/
def nxt (x : Fl) (t : Ev → Fl) : Fl := match x with
  | .nx e => t e
  | x => x
@[simp] theorem nxt_nx {e : Ev} {t : Ev → Fl} : nxt (.nx e) t = t e := rfl
@[simp] theorem nxt_rt {r : MD} {e : Ev} {t : Ev → Fl} : nxt (.rt r e) t = .rt r e := rfl
@[simp] theorem nxt_bk {e : Ev} {t : Ev → Fl} : nxt (.bk e) t = .bk e := rfl
@[simp] theorem nxt_ct {e : Ev} {t : Ev → Fl} : nxt (.ct e) t = .ct e := rfl
@[simp] theorem nxt_ex {c : Str} {p : Option MD} {e : Ev} {t : Ev → Fl} : nxt (.ex c p e) t = .ex c p e := rfl
@[simp] theorem nxt_no {t : Ev → Fl} : nxt .no t = .no := rfl
def selP (c : Option Bool) (s t : Ev → Fl) (ev : Ev) : Fl := match c with
  | some true => s ev
  | some false => t ev
  | none => .no
@[simp] theorem selP_t {s t : Ev → Fl} {ev : Ev} : selP (some true) s t ev = s ev := rfl
@[simp] theorem selP_f {s t : Ev → Fl} {ev : Ev} : selP (some false) s t ev = t ev := rfl
/-- where the test is not settled yet -/
theorem selP_b {b : Bool} {s t : Ev → Fl} {ev : Ev} : selP (some b) s t ev = if b = true then s ev else t ev := by cases b <;> rfl
def selB (c : Option Bool) (s t : Ev → Option Bool) (ev : Ev) : Option Bool := match c with
  | some true => s ev
  | some false => t ev
  | none => none
@[simp] theorem selB_t {s t : Ev → Option Bool} {ev : Ev} : selB (some true) s t ev = s ev := rfl
@[simp] theorem selB_f {s t : Ev → Option Bool} {ev : Ev} : selB (some false) s t ev = t ev := rfl
theorem selB_b {b : Bool} {s t : Ev → Option Bool} {ev : Ev} : selB (some b) s t ev = if b = true then s ev else t ev := by cases b <;> rfl
def kidsL (m : Md) (ds : List D) : List (List MD) := ds.map fun x => [childM m x]
/-- the ints of a list, one by one -/
def intsL (ns : List Int) : List (List MD) := ns.map fun n => [(Md.dp, D.int n)]
@[simp] theorem kidsL_int {m : Md} : ∀ {ns : List Int}, kidsL m (ns.map D.int) = intsL ns
  | [] => rfl
  | n :: ns => congrArg ([(Md.dp, D.int n)] :: ·) (kidsL_int (ns := ns))
@[simp] theorem intsL_nil : intsL [] = [] := rfl
@[simp] theorem intsL_cons {n : Int} {ns : List Int} : intsL (n :: ns) = [(Md.dp, D.int n)] :: intsL ns := rfl
@[simp] theorem x_seq {s t : Ev → Fl} {ev : Ev} : seqS s t ev = nxt (s ev) t := rfl
@[simp] theorem x_skip {ev : Ev} : skipS ev = .nx ev := rfl
@[simp] theorem x_break {ev : Ev} : breakS ev = .bk ev := rfl
@[simp] theorem x_cont {ev : Ev} : contS ev = .ct ev := rfl
@[simp] theorem x_retN {ev : Ev} : retN ev = .rt (.dp, .non) ev := rfl
@[simp] theorem x_bnd1 {α : Type} {a : α} {ev : Ev} {k : α → Ev → Fl} : bndS (.ok a ev) k = k a ev := rfl
@[simp] theorem x_bnd2 {α : Type} {c : Str} {p : Option MD} {ev : Ev} {k : α → Ev → Fl} : bndS (.ex c p ev) k = .ex c p ev := rfl
@[simp] theorem x_bnd3 {α : Type} {k : α → Ev → Fl} : bndS .no k = .no := rfl
@[simp] theorem x_bind1 {α β : Type} {a : α} {ev : Ev} {k : α → Ev → Rs β} : (Rs.ok a ev).bind k = k a ev := rfl
@[simp] theorem x_bind2 {α β : Type} {c : Str} {p : Option MD} {ev : Ev} {k : α → Ev → Rs β} : (Rs.ex c p ev).bind k = .ex c p ev := rfl
@[simp] theorem x_bind3 {α β : Type} {k : α → Ev → Rs β} : (Rs.no).bind k = .no := rfl
@[simp] theorem x_expr {f : Ev → Rs MD} {ev : Ev} : exprS f ev = bndS (f ev) exprK := rfl
@[simp] theorem x_ret {f : Ev → Rs MD} {ev : Ev} : retS f ev = bndS (f ev) retK := rfl
@[simp] theorem x_set {i : Nat} {f : Ev → Rs MD} {ev : Ev} : setS i f ev = bndS (f ev) (setK i) := rfl
@[simp] theorem x_ifP {c : Ev → Option Bool} {s t : Ev → Fl} {ev : Ev} : ifP c s t ev = selP (c ev) s t ev := rfl
@[simp] theorem x_ifS {c : Ev → Rs Bool} {s t : Ev → Fl} {ev : Ev} : ifS c s t ev = bndS (c ev) (ifK s t) := rfl
@[simp] theorem x_pC {d : D} {ev : Ev} : pC d ev = some (.fl d) := rfl
@[simp] theorem x_d1 {d : D} : (Pv.fl d).d = d := rfl
@[simp] theorem x_d2 {i : Nat} {t : Bool} {d : D} : (Pv.vw i t d).d = d := rfl
@[simp] theorem x_sub1 {d x : D} : (Pv.fl d).sub x = .fl x := rfl
@[simp] theorem x_sub2 {i : Nat} {t : Bool} {d x : D} : (Pv.vw i t d).sub x = .vw i false x := rfl
@[simp] theorem x_bNot {f : Ev → Option Bool} {ev : Ev} : bNot f ev = (f ev).map (!·) := rfl
@[simp] theorem x_bAnd {f h : Ev → Option Bool} {ev : Ev} : bAnd f h ev = selB (f ev) h (fun _ => some false) ev := by
  unfold bAnd selB
  cases f ev with
  | none => rfl
  | some b => cases b <;> rfl
@[simp] theorem x_bOr {f h : Ev → Option Bool} {ev : Ev} : bOr f h ev = selB (f ev) (fun _ => some true) h ev := by
  unfold bOr selB
  cases f ev with
  | none => rfl
  | some b => cases b <;> rfl
@[simp] theorem x_pOf {f : Ev → Option Bool} {ev : Ev} : pOf f ev = (f ev).map fun b => .fl (.bl b) := rfl
@[simp] theorem x_pIf {c : Ev → Option Bool} {f h : Ev → Option Pv} {ev : Ev} : pIf c f h ev = (match c ev with | some true => f ev | some false => h ev | none => none) := rfl
@[simp] theorem x_gAdd {i j : Int} : gAdd (.int i) (.int j) = some (.int (i + j)) := rfl
@[simp] theorem x_gSub {i j : Int} : gSub (.int i) (.int j) = some (.int (i - j)) := rfl
@[simp] theorem x_gMul {i j : Int} (h : mulOk i j = true) : gMul (.int i) (.int j) = some (.int (i * j)) := by simp [gMul, h]
@[simp] theorem x_gMod {i j : Int} (h : 0 < j) : gMod (.int i) (.int j) = some (.int (i % j)) := by simp [gMod, h]
@[simp] theorem x_gDiv {i j : Int} (h : 0 < j) (h2 : j < 2 ^ 64) : gDiv (.int i) (.int j) = some (.int (i / j)) := by
  have h3 : j.natAbs.log2 < 9000 := by
    have : j.natAbs ≠ 0 := by omega
    exact (Nat.log2_lt this).mpr (Nat.lt_of_lt_of_le (show j.natAbs < 2 ^ 64 by omega) (Nat.pow_le_pow_right (by decide) (by decide)))
  simp [gDiv, h, h3]
@[simp] theorem x_gPow {i j : Int} (h : 0 ≤ j ∧ j ≤ 1000000 ∧ i.natAbs < 2 ^ 64) : gPow (.int i) (.int j) = some (.int (i ^ j.toNat)) := by simp only [gPow, if_pos h]
@[simp] theorem x_gLt {i j : Int} : gLt (.int i) (.int j) = some (.bl (decide (i < j))) := rfl
@[simp] theorem x_gLe {i j : Int} : gLe (.int i) (.int j) = some (.bl (decide (i ≤ j))) := rfl
@[simp] theorem x_gGt {i j : Int} : gGt (.int i) (.int j) = some (.bl (decide (j < i))) := rfl
@[simp] theorem x_gGe {i j : Int} : gGe (.int i) (.int j) = some (.bl (decide (j ≤ i))) := rfl
@[simp] theorem x_gNeg {i : Int} : gNeg (.int i) = some (.int (-i)) := rfl
@[simp] theorem x_gEq1 {i j : Int} : gEq (.int i) (.int j) = some (.bl (decide (i = j))) := rfl
@[simp] theorem x_gEq2 {i j : Bool} : gEq (.bl i) (.bl j) = some (.bl (decide (i = j))) := rfl
@[simp] theorem x_gEq3 {i j : Str} : gEq (.str i) (.str j) = some (.bl (decide (i = j))) := rfl
@[simp] theorem x_gNe {d e : D} : gNe d e = (gEq d e).bind gNot := rfl
@[simp] theorem x_gNot {b : Bool} : gNot (.bl b) = some (.bl (!b)) := rfl
@[simp] theorem x_gLen1 {ds : List D} : gLen (.lst ds) = some (.int ds.length) := rfl
@[simp] theorem x_gLen2 {ds : List D} : gLen (.tup ds) = some (.int ds.length) := rfl
@[simp] theorem x_gInt1 {i : Int} : gInt (.int i) = some (.int i) := rfl
@[simp] theorem x_gInt2 {k : Bool} : gInt (.bl k) = some (.int (if k then 1 else 0)) := rfl
@[simp] theorem x_gIsT_non {T : String} : gIsT T .non = some (.bl (isT T .non)) := rfl
@[simp] theorem x_gIsT_bl {T : String} {b : Bool} : gIsT T (.bl b) = some (.bl (isT T (.bl b))) := rfl
@[simp] theorem x_gIsT_int {T : String} {b : Int} : gIsT T (.int b) = some (.bl (isT T (.int b))) := rfl
@[simp] theorem x_gIsT_str {T : String} {b : Str} : gIsT T (.str b) = some (.bl (isT T (.str b))) := rfl
@[simp] theorem x_gIsT_lst {T : String} {b : List D} : gIsT T (.lst b) = some (.bl (isT T (.lst b))) := rfl
@[simp] theorem x_gIsT_tup {T : String} {b : List D} : gIsT T (.tup b) = some (.bl (isT T (.tup b))) := rfl
@[simp] theorem x_gIsT_dct {T : String} {k : List Key} {b : List D} : gIsT T (.dct k b) = some (.bl (isT T (.dct k b))) := rfl
@[simp] theorem isErr_non : isErr .non = false := rfl
@[simp] theorem isErr_bl {b : Bool} : isErr (.bl b) = false := rfl
@[simp] theorem isErr_int {b : Int} : isErr (.int b) = false := rfl
@[simp] theorem isErr_str {b : Str} : isErr (.str b) = false := rfl
@[simp] theorem isErr_lst {b : List D} : isErr (.lst b) = false := rfl
@[simp] theorem isErr_tup {b : List D} : isErr (.tup b) = false := rfl
@[simp] theorem isErr_dct {k : List Key} {b : List D} : isErr (.dct k b) = false := rfl
@[simp] theorem x_flat_err {c : Value} {ds : List D} : flat (.err c ds) = flats ds := rfl
@[simp] theorem x_gMin {i j : Int} : gMin (.int i) (.int j) = some (.int (if j < i then j else i)) := rfl
@[simp] theorem x_gMax {i j : Int} : gMax (.int i) (.int j) = some (.int (if j > i then j else i)) := rfl
@[simp] theorem x_flat_non  : flat (.non) = true := rfl
@[simp] theorem x_flat_bl {b : Bool} : flat (.bl b) = true := rfl
@[simp] theorem x_flat_int {i : Int} : flat (.int i) = true := rfl
@[simp] theorem x_flat_str {s : Str} : flat (.str s) = true := rfl
@[simp] theorem x_flat_lst {ds : List D} : flat (.lst ds) = false := rfl
@[simp] theorem x_flat_tup {ds : List D} : flat (.tup ds) = flats ds := rfl
@[simp] theorem x_flats0 : flats [] = true := rfl
@[simp] theorem x_flats1 {d : D} {ds : List D} : flats (d :: ds) = (flat d && flats ds) := rfl
@[simp] theorem x_nil {ev : Ev} : nilM ev = .ok [] ev := rfl
@[simp] theorem x_cons {f : Ev → Rs MD} {h : Ev → Rs (List MD)} {ev : Ev} : consM f h ev = (f ev).bind (consK h) := rfl
@[simp] theorem x_allD0 : allD [] = true := rfl
@[simp] theorem x_allD1 {a : MD} {as : List MD} : allD (a :: as) = ((a.1 == .dp || flat a.2) && allD as) := rfl
@[simp] theorem x_md : ((Md.dp == Md.dp) = true) ∧ ((Md.sh == Md.dp) = false) ∧ ((Md.rt == Md.dp) = false) := by decide
@[simp] theorem x_sz {n : Nat} (h : n ≤ 1000000) : n ≤ sizeLine := Nat.le_trans h (by decide)
@[simp] theorem x_tup {h : Ev → Rs (List MD)} {ev : Ev} : tupM h ev = (h ev).bind tupK := rfl
@[simp] theorem x_lst {h : Ev → Rs (List MD)} {ev : Ev} : lstM h ev = (h ev).bind lstK := rfl
@[simp] theorem x_bM {f : Ev → Rs MD} {ev : Ev} : bM f ev = (f ev).bind bK := rfl
@[simp] theorem x_lift {f : Ev → Option Bool} {ev : Ev} : liftB f ev = (match f ev with | some b => .ok b ev | none => .no) := rfl
@[simp] theorem x_notM {f : Ev → Rs Bool} {ev : Ev} : notM f ev = (f ev).bind notK := rfl
@[simp] theorem x_andM {f h : Ev → Rs Bool} {ev : Ev} : andM f h ev = (f ev).bind (andK h) := rfl
@[simp] theorem x_orM {f h : Ev → Rs Bool} {ev : Ev} : orM f h ev = (f ev).bind (orK h) := rfl
@[simp] theorem x_ofB {f : Ev → Rs Bool} {ev : Ev} : ofB f ev = (f ev).bind ofK := rfl
@[simp] theorem x_ifM {c : Ev → Rs Bool} {f h : Ev → Rs MD} {ev : Ev} : ifM c f h ev = (c ev).bind (ifMK f h) := rfl
@[simp] theorem x_aNil {α : Type} {k : List Ag → Ev → Rs α} {ev : Ev} : aNil k ev = k [] ev := rfl
@[simp] theorem x_aT {α : Type} {f : Ev → Rs MD} {A : Arp α} {k : List Ag → Ev → Rs α} {ev : Ev} : aT f A k ev = (f ev).bind (aTK A k) := rfl
@[simp] theorem x_aL {α : Type} {f : Ev → Rs MD} {A : Arp α} {k : List Ag → Ev → Rs α} {ev : Ev} : aL f A k ev = (f ev).bind (aLK A k) := rfl
@[simp] theorem x_aTup {α : Type} {B A : Arp α} {k : List Ag → Ev → Rs α} {ev : Ev} : aTup B A k ev = B (tupAK A k) ev := rfl
@[simp] theorem x_vals0 : valsA [] = some (true, []) := rfl
@[simp] theorem x_vals1 {s : Bool} {d : D} {as : List Ag} : valsA (.vl s d :: as) = (match valsA as with | some (t, ds) => some (s && t, d :: ds) | none => none) := rfl
@[simp] theorem x_take0 {ev : Ev} : takeA [] ev = some ([], ev) := rfl
@[simp] theorem x_take1 {r : MD} {as : List Ag} {ev : Ev} : takeA (.tp r :: as) ev = (takeA as ev).map fun p => (r :: p.1, p.2) := rfl
@[simp] theorem x_take2 {s : Bool} {d : D} {as : List Ag} {ev : Ev} : takeA (.vl s d :: as) ev = (takeA as ev).map fun p => ((.lk, d) :: p.1, p.2) := rfl
@[simp] theorem x_put0 {fs ev : Ev} : putA [] fs ev = ev := by cases fs <;> rfl
@[simp] theorem x_putM {i : Nat} {as : List Ag} {f : Option MD} {fs ev : Ev} : putA (.mv i :: as) (f :: fs) ev = putA as fs (ev.set i (put1 f)) := rfl
@[simp] theorem x_putT {r : MD} {as : List Ag} {f : Option MD} {fs ev : Ev} : putA (.tp r :: as) (f :: fs) ev = putA as fs ev := rfl
@[simp] theorem x_putV {s : Bool} {d : D} {as : List Ag} {f : Option MD} {fs ev : Ev} : putA (.vl s d :: as) (f :: fs) ev = putA as fs ev := rfl
@[simp] theorem x_put1b : put1 none = none := rfl
@[simp] theorem x_call {F : List MD → Rf} {as : List Ag} {ev : Ev} : callF F as ev = (match takeA as ev with | some (es, ev1) => (match F es with | .ok r fs => .ok r (putA as fs ev1) | .ex c p fs => .ex c p (putA as fs ev1) | .no => .no) | none => .no) := rfl
@[simp] theorem x_opA {k : List Ag → Ev → Rs MD} {A : Arp MD} {ev : Ev} : opA k A ev = A k ev := rfl
@[simp] theorem x_kF1 {g : D → Option D} {s : Bool} {a : D} {ev : Ev} : kF1 g [.vl s a] ev = (match g a with | some z => .ok (.dp, z) ev | none => .no) := rfl
@[simp] theorem x_kF2 {g : D → D → Option D} {s t : Bool} {a b : D} {ev : Ev} : kF2 g [.vl s a, .vl t b] ev = (match g a b with | some z => .ok (.dp, z) ev | none => .no) := rfl
@[simp] theorem x_kIx {s t : Bool} {d : D} {i : Int} {ev : Ev} : kIx [.vl s d, .vl t (.int i)] ev = (match seqD d with | some ds => (match atI ds i with | some x => kidM s x ev | none => .no) | none => .no) := rfl
@[simp] theorem x_seqD1 {ds : List D} : seqD (.lst ds) = some ds := rfl
@[simp] theorem x_seqD2 {ds : List D} : seqD (.tup ds) = some ds := rfl
@[simp] theorem x_kL1 {g : D → Option (List D)} {s : Bool} {a : D} {ev : Ev} : kL1 g [.vl s a] ev = (match g a with | some ds => newL s ds ev | none => .no) := rfl
@[simp] theorem x_add1 {s t : Bool} {xs ys : List D} {ev : Ev} : kAdd [.vl s (.lst xs), .vl t (.lst ys)] ev = if xs.length + ys.length ≤ sizeLine then newL (s && t) (xs ++ ys) ev else .no := rfl
@[simp] theorem x_add2 {s t : Bool} {xs ys : List D} {ev : Ev} : kAdd [.vl s (.tup xs), .vl t (.tup ys)] ev = if xs.length + ys.length ≤ sizeLine then newT (s && t) (xs ++ ys) ev else .no := rfl
@[simp] theorem x_appU {ds : List D} {d : D} (h : ds.length < 1000000) : appU ds d = some (ds ++ [d]) := by simp only [appU, if_pos (Nat.lt_of_lt_of_le h (show 1000000 ≤ sizeLine by decide))]
@[simp] theorem x_setU {n : Nat} {ds : List D} {d : D} (h : n < ds.length) : setU n ds d = some (ds.set n d) := by simp only [setU, if_pos h]
@[simp] theorem x_getP0 {d : D} : getP [] d = some d := rfl
@[simp] theorem x_getP1 {k : Nat} {ks : List Nat} {ds : List D} : getP (k :: ks) (.lst ds) = (ds[k]?).bind (getP ks) := rfl
@[simp] theorem x_getP2 {k : Nat} {ks : List Nat} {ds : List D} : getP (k :: ks) (.tup ds) = (ds[k]?).bind (getP ks) := rfl
@[simp] theorem x_putP0 {d x : D} : putP [] d x = x := rfl
@[simp] theorem x_putP1 {k : Nat} {ks : List Nat} {ds : List D} {x : D} : putP (k :: ks) (.lst ds) x = .lst (ds.modify k fun y => putP ks y x) := rfl
@[simp] theorem x_putP2 {k : Nat} {ks : List Nat} {ds : List D} {x : D} : putP (k :: ks) (.tup ds) x = .tup (ds.modify k fun y => putP ks y x) := rfl
@[simp] theorem x_pthN {ev : Ev} : pthN ev = some [] := rfl
@[simp] theorem x_setI {i : Nat} {p : Ev → Option (List Nat)} {f : Ev → Rs MD} {h : Ev → Option Pv} {ev : Ev} : setIS i p f h ev = bndS (f ev) (setIG i p h) := rfl
@[simp] theorem x_ixN {n : Nat} {i : Int} (h0 : 0 ≤ i) (h1 : i < n) : ixN n i = some i.toNat := by simp [ixN, h0, h1]
@[simp] theorem x_unpM {tgs : List Nat} {f : Ev → Rs MD} {ev : Ev} : unpM tgs f ev = bndS (f ev) (unpK tgs) := rfl
@[simp] theorem x_unpG {tgs : List Nat} {m : Md} {ds : List D} {ev : Ev} : unpG tgs m (.tup ds) ev = if ds.length = tgs.length ∧ (∀ i ∈ tgs, i < ev.length) then .nx (asgn tgs (ds.map (childM m)) ev) else .no := rfl
@[simp] theorem x_asgn0 {rs : List MD} {ev : Ev} : asgn [] rs ev = ev := rfl
@[simp] theorem x_asgn1 {i : Nat} {is : List Nat} {r : MD} {rs : List MD} {ev : Ev} : asgn (i :: is) (r :: rs) ev = asgn is rs (ev.set i (some r)) := rfl
@[simp] theorem x_for {src : Ev → Rs (List (List MD))} {tgs : List Nat} {b : Ev → Fl} {ev : Ev} : forS src tgs b ev = bndS (src ev) (forG tgs b) := rfl
@[simp] theorem x_rng1 {s : Bool} {j : Int} {ev : Ev} (h : inLine j = true) : kRng1 [.vl s (.int j)] ev = .ok (rngI 0 j.toNat) ev := by simp [kRng1, h]
@[simp] theorem x_rng2 {s t : Bool} {i j : Int} {ev : Ev} (h : inLine i = true) (h2 : inLine j = true) : kRng2 [.vl s (.int i), .vl t (.int j)] ev = .ok (rngI i (j - i).toNat) ev := by simp [kRng2, h, h2]
@[simp low] theorem x_inl {j : Int} (h0 : -4611686018427387904 ≤ j) (h1 : j < 4611686018427387904) : inLine j = true := inLine_iff.mpr ⟨by omega, by omega⟩
@[simp] theorem x_zip {s t : Bool} {ds es : List D} {ev : Ev} : kZip [.vl s (.lst ds), .vl t (.lst es)] ev = .ok (zipI (if s = true then .sh else .lk) (if t = true then .sh else .lk) ds es) ev := rfl
@[simp] theorem x_enum {s : Bool} {ds : List D} {ev : Ev} : kEnum [.vl s (.lst ds)] ev = .ok (enumI (if s = true then .sh else .lk) 0 ds) ev := rfl
@[simp] theorem x_srcM {nm : Bool} {f : Ev → Rs MD} {ev : Ev} : srcM nm f ev = (f ev).bind (srcK nm) := rfl
@[simp] theorem x_its1 {m : Md} {ds : List D} : itsD true m (.lst ds) = some (kidsL m ds) := rfl
@[simp] theorem x_its2 {m : Md} {ds : List D} : itsD true m (.tup ds) = some (kidsL m ds) := rfl
@[simp] theorem x_its3 {m : Md} {ds : List D} : itsD false m (.lst ds) = splitA m ds := rfl
@[simp] theorem x_its4 {m : Md} {ds : List D} : itsD false m (.tup ds) = splitA m ds := rfl
@[simp] theorem x_lcM {src : Ev → Rs (List (List MD))} {tgs own : List Nat} {test : Ev → Rs Bool} {elt : Ev → Rs MD} {ev : Ev} : lcM src tgs own test elt ev = (src ev).bind (lcK tgs own test elt) := rfl
@[simp] theorem x_yes {ev : Ev} : tYesM ev = .ok true ev := rfl
@[simp] theorem x_wipe0 {ev : Ev} : wipeE [] ev = ev := rfl
@[simp] theorem x_wipe1 {v : Nat} {vs : List Nat} {ev : Ev} : wipeE (v :: vs) ev = (wipeE vs ev).set v none := rfl
@[simp] theorem x_rest0 {ev ev1 : Ev} : restE [] ev ev1 = ev1 := rfl
@[simp] theorem x_rest1 {v : Nat} {vs : List Nat} {ev ev1 : Ev} : restE (v :: vs) ev ev1 = restE vs ev (ev1.set v ((wipeE vs ev).getD v none)) := rfl
@[simp] theorem x_forN {tgs : List Nat} {b : Ev → Fl} {ev : Ev} : forG tgs b [] ev = .nx ev := rfl
@[simp] theorem x_lcN {tgs own : List Nat} {test : Ev → Rs Bool} {elt : Ev → Rs MD} {acc : MD} {ev : Ev} : lcG tgs own test elt [] acc ev = .ok acc ev := rfl
@[simp] theorem x_finF {ks : List Bool} {ev : Ev} : finF ks ev = (ev.take ks.length).zipWith (fun s k => if k = true then s else none) ks := rfl
@[simp] theorem x_isT_int_int {i : Int} : isT "int" (.int i) = true := rfl
@[simp] theorem x_isT_int_bool {i : Int} : isT "bool" (.int i) = false := rfl
@[simp] theorem x_isT_bl_bool {b : Bool} : isT "bool" (.bl b) = true := rfl
@[simp] theorem x_isT_bl_int {b : Bool} : isT "int" (.bl b) = true := rfl
@[simp] theorem x_isT_lst_list {ds : List D} : isT "list" (.lst ds) = true := rfl
@[simp] theorem x_isT_tup_tuple {ds : List D} : isT "tuple" (.tup ds) = true := rfl
@[simp] theorem x_isT_lst_tuple {ds : List D} : isT "tuple" (.lst ds) = false := rfl
@[simp] theorem x_isT_tup_list {ds : List D} : isT "list" (.tup ds) = false := rfl
@[simp] theorem x_isT_str_str {s : Str} : isT "str" (.str s) = true := rfl
@[simp] theorem x_isT_int_str {i : Int} : isT "str" (.int i) = false := rfl
@[simp] theorem x_isT_int_list {i : Int} : isT "list" (.int i) = false := rfl
@[simp] theorem x_isT_int_tuple {i : Int} : isT "tuple" (.int i) = false := rfl
@[simp] theorem x_setV (i : Nat) (f : Ev → Option Pv) {ev : Ev} : setV i f ev = (match f ev with
  | some (.vw j _ d) => if flat d = true then (if i < ev.length then .nx (ev.set i (some (.dp, d))) else .no) else match ev[j]? with
    | some (some (.lk, _)) => if i < ev.length then .nx (ev.set i (some (.lk, d))) else .no
    | _ => setS i (capM f) ev
  | _ => setS i (capM f) ev) := rfl
@[simp] theorem x_pName (i : Nat) {ev : Ev} : pName i ev = (match ev[i]? with
  | some (some (_, d)) => some (.vw i true d)
  | _ => none) := rfl
@[simp] theorem x_p2 (g : D → D → Option D) (f h : Ev → Option Pv) {ev : Ev} : p2 g f h ev = (match f ev, h ev with
  | some a, some b => (g a.d b.d).map .fl
  | _, _ => none) := rfl
@[simp] theorem x_p1 (g : D → Option D) (f : Ev → Option Pv) {ev : Ev} : p1 g f ev = (match f ev with
  | some a => (g a.d).map .fl
  | _ => none) := rfl
@[simp] theorem x_pIx (f h : Ev → Option Pv) {ev : Ev} : pIx f h ev = (match f ev, h ev with
  | some a, some k => match a.d, k.d with
    | .lst ds, .int i => (atI ds i).map a.sub
    | .tup ds, .int i => (atI ds i).map a.sub
    | .str s, .int i => if s.length ≤ sizeLine then (atI s.cps.toList i).map fun c => .fl (.str ⟨#[c]⟩) else none
    | _, _ => none
  | _, _ => none) := rfl
@[simp] theorem x_pB (f : Ev → Option Pv) {ev : Ev} : pB f ev = (match f ev with
  | some p => match p.d with
    | .bl b => some b
    | _ => none
  | _ => none) := rfl
@[simp] theorem x_capM (f : Ev → Option Pv) {ev : Ev} : capM f ev = (match f ev with
  | some (.fl d) => .ok (.dp, d) ev
  | some (.vw i t d) => if flat d = true then .ok (.dp, d) ev else match ev[i]? with
    | some (some (.sh, _)) => .ok (.sh, d) ev
    | some (some (.rt, d0)) => if t = true then .ok (.sh, d) (ev.set i (some (.sh, d0))) else .ok (.sh, d) ev
    | some (some (.dp, d0)) => .ok (.sh, d) (ev.set i (some (.sh, d0)))
    | _ => .no
  | none => .no) := rfl
@[simp] theorem x_mvM (i : Nat) {ev : Ev} : mvM i ev = (match ev[i]? with
  | some (some (m, d)) => if m = .lk then .no else .ok (m, d) (ev.set i none)
  | _ => .no) := rfl
@[simp] theorem x_aV {α : Type} {f : Ev → Option Pv} {A : Arp α} {k : List Ag → Ev → Rs α} {ev : Ev} : aV f A k ev = (match f ev with
  | some (.fl d) => A (pushK (.vl true d) k) ev
  | some (.vw i _ d) => if flat d = true then A (pushK (.vl true d) k) ev else match ev[i]? with
    | some (some (.lk, _)) => A (pushK (.vl false d) k) ev
    | some (some (.sh, _)) => A (pushK (.vl true d) k) ev
    | _ => .no
  | none => .no) := rfl
@[simp] theorem x_aM {α : Type} {i : Nat} {A : Arp α} {k : List Ag → Ev → Rs α} {ev : Ev} : aM i A k ev = (match ev[i]? with
  | some (some _) => A (pushK (.mv i) k) ev
  | _ => .no) := rfl
@[simp] theorem x_aPI {α : Type} {f : Ev → Option Pv} {A : Arp α} {k : List Ag → Ev → Rs α} {ev : Ev} : aPI f A k ev = (match f ev with
  | some pv => match pv.d with
    | .int i => A (pushK (.vl true (.int i)) k) ev
    | _ => .no
  | none => .no) := rfl
@[simp] theorem x_lockS {α : Type} (i : Nat) (k : Ev → Rs α) {ev : Ev} : lockS i k ev = (match ev[i]? with
  | some (some (.lk, _)) => k ev
  | some (some (.sh, _)) => k ev
  | some (some (m, d0)) => unlockS i m d0 (k (ev.set i (some (.lk, d0))))
  | _ => .no) := rfl
@[simp] theorem x_appE {i : Nat} {f : Ev → Rs MD} {ev : Ev} : appE i f ev = (match ev[i]? with
  | some (some (m, .lst _)) => (f ev).bind (appK i)
  | _ => .no) := rfl
@[simp] theorem x_pthI (i : Nat) (p : Ev → Option (List Nat)) (h : Ev → Option Pv) {ev : Ev} : pthI i p h ev = (match p ev, h ev, ev[i]? with
  | some ks, some pv, some (some (.dp, d0)) => match getP ks d0, pv.d with
    | some d, .int j => (seqD d).bind fun ds => (ixN ds.length j).map fun n => ks ++ [n]
    | _, _ => none
  | _, _, _ => none) := rfl
@[simp] theorem x_unpV (tgs : List Nat) (f : Ev → Option Pv) {ev : Ev} : unpV tgs f ev = (match vwI f ev with
  | some (m, d) => unpG tgs m d ev
  | none => .no) := rfl
@[simp] theorem x_vwI (f : Ev → Option Pv) {ev : Ev} : vwI f ev = (match f ev with
  | some (.fl d) => some (.sh, d)
  | some (.vw i _ d) => if flat d = true then some (.sh, d) else match ev[i]? with
    | some (some (.lk, _)) => some (.lk, d)
    | some (some (.sh, _)) => some (.sh, d)
    | _ => none
  | none => none) := rfl
@[simp] theorem x_srcV (nm : Bool) (f : Ev → Option Pv) {ev : Ev} : srcV nm f ev = (match vwI f ev with
  | some (m, d) => match itsD nm m d with
    | some is => .ok is ev
    | none => .no
  | none => .no) := rfl
@[simp] theorem x_kid {s : Bool} {x : D} {ev : Ev} : kidM s x ev = (if flat x = true then .ok (.dp, x) ev else if s = true then .ok (.sh, x) ev else .no) := rfl
@[simp] theorem x_newL {s : Bool} {ds : List D} {ev : Ev} : newL s ds ev = (if flats ds = true then .ok (.dp, .lst ds) ev else if s = true then .ok (.rt, .lst ds) ev else .no) := rfl
@[simp] theorem x_newT {s : Bool} {ds : List D} {ev : Ev} : newT s ds ev = (if flats ds = true then .ok (.dp, .tup ds) ev else if s = true then .ok (.sh, .tup ds) ev else .no) := rfl
@[simp] theorem x_child {m : Md} {d : D} : childM m d = (if flat d = true then (.dp, d) else (m, d)) := rfl
@[simp] theorem x_put1d {d : D} : put1 (some (.dp, d)) = some (.dp, d) := rfl
@[simp] theorem x_put1r {d : D} : put1 (some (.rt, d)) = some (.rt, d) := rfl
@[simp] theorem x_put1s {d : D} : put1 (some (.sh, d)) = some (.sh, d) := rfl
@[simp] theorem x_put1l {d : D} : put1 (some (.lk, d)) = none := rfl
@[simp] theorem x_take3 {i : Nat} {as : List Ag} {ev : Ev} : takeA (.mv i :: as) ev = (match ev[i]? with
    | some (some (m, d)) => if m = .lk then none else (takeA as (ev.set i none)).map fun p => ((m, d) :: p.1, p.2)
    | _ => none) := rfl
@[simp] theorem x_unl1 {α : Type} {i : Nat} {m : Md} {d : D} {a : α} {ev2 : Ev} : unlockS i m d (.ok a ev2) = (match ev2[i]? with
    | some (some (.lk, _)) => .ok a (ev2.set i (some (m, d)))
    | _ => .no) := rfl
@[simp] theorem x_unl2 {α : Type} {i : Nat} {m : Md} {d : D} {c : Str} {p : Option MD} {ev2 : Ev} : unlockS i m d (.ex c p ev2 : Rs α) = (match ev2[i]? with
    | some (some (.lk, _)) => .ex c p (ev2.set i (some (m, d)))
    | _ => .no) := rfl
@[simp] theorem x_unl3 {α : Type} {i : Nat} {m : Md} {d : D} : unlockS i m d (.no : Rs α) = .no := rfl
theorem body_ok1 {m : Nat} {ks : List Bool} {s : Ev → Fl} {es : List MD} {r : MD} {ev : Ev} (hl : es.length = ks.length) (h : s (es.map some ++ List.replicate (m - ks.length) none) = .rt r ev) (h2 : ks.length ≤ ev.length) : bodyF m ks s es = .ok r (finF ks ev) := by
  simp only [bodyF, if_pos hl, h, if_pos h2]
theorem body_ok2 {m : Nat} {ks : List Bool} {s : Ev → Fl} {es : List MD} {ev : Ev} (hl : es.length = ks.length) (h : s (es.map some ++ List.replicate (m - ks.length) none) = .nx ev) (h2 : ks.length ≤ ev.length) : bodyF m ks s es = .ok (.dp, .non) (finF ks ev) := by
  simp only [bodyF, if_pos hl, h, if_pos h2]
theorem for_cons {tgs : List Nat} {b : Ev → Fl} {x : List MD} {xs : List (List MD)} {ev ev1 : Ev} (hl : x.length = tgs.length ∧ ∀ i ∈ tgs, i < ev.length) (h : b (asgn tgs x ev) = .nx ev1) : forG tgs b (x :: xs) ev = forG tgs b xs ev1 := by
  simp only [forG, if_pos hl, h]
theorem lc_yes {tgs own : List Nat} {test : Ev → Rs Bool} {elt : Ev → Rs MD} {x : List MD} {xs : List (List MD)} {acc acc' r : MD} {ev ev1 ev2 : Ev} (hl : x.length = tgs.length ∧ ∀ i ∈ tgs, i < ev.length) (h : test (asgn tgs x ev) = .ok true ev1) (h2 : elt ev1 = .ok r ev2) (h3 : appM acc r = some acc') :
    lcG tgs own test elt (x :: xs) acc ev = lcG tgs own test elt xs acc' (wipeE own ev2) := by
  simp only [lcG, if_pos hl, h, h2, h3]
theorem lc_no {tgs own : List Nat} {test : Ev → Rs Bool} {elt : Ev → Rs MD} {x : List MD} {xs : List (List MD)} {acc : MD} {ev ev1 : Ev} (hl : x.length = tgs.length ∧ ∀ i ∈ tgs, i < ev.length) (h : test (asgn tgs x ev) = .ok false ev1) :
    lcG tgs own test elt (x :: xs) acc ev = lcG tgs own test elt xs acc (wipeE own ev1) := by
  simp only [lcG, if_pos hl, h]
@[simp] theorem mulOk_l {i j : Int} (h : -18446744073709551616 < i ∧ i < 18446744073709551616) : mulOk i j = true := mulOk_iff.mpr (.inl ⟨by omega, by omega⟩)
@[simp] theorem mulOk_r {i j : Int} (h : -18446744073709551616 < j ∧ j < 18446744073709551616) : mulOk i j = true := mulOk_iff.mpr (.inr (.inl ⟨by omega, by omega⟩))
theorem rngI_cons {lo : Int} {n : Nat} : rngI lo (n + 1) = [(Md.dp, D.int lo)] :: rngI (lo + 1) n := by
  unfold rngI
  rw [List.range_succ_eq_map]
  simp only [List.map_cons, List.map_map]
  refine congr (congrArg _ (by simp)) (List.map_congr_left fun k _ => ?_)
  simp only [Function.comp]
  congr 3
  omega
@[simp] theorem rngI_nil {lo : Int} : rngI lo 0 = [] := rfl
abbrev lstI (ns : List Int) : D := .lst (ns.map D.int)
@[simp] theorem lstI_def {ns : List Int} : lstI ns = .lst (ns.map D.int) := rfl
theorem inl_small {j : Int} (h0 : 0 ≤ j) (h1 : j < 1000000) : inLine j = true := x_inl (by omega) (by omega)
/-- range(n) -/
theorem rng_c {j : Int} {ev : Ev} (h0 : 0 ≤ j) (h1 : j < 1000000) : aV (pC (.int j)) aNil kRng1 ev = .ok (rngI 0 j.toNat) ev := by
  simp [inl_small h0 h1]
/-- range(len(name)) -/
theorem rng_len {i : Nat} {ev : Ev} {m : Md} {ds : List D} (h : ev[i]? = some (some (m, .lst ds))) (hl : ds.length < 1000000) : aV (p1 gLen (pName i)) aNil kRng1 ev = .ok (rngI 0 ds.length) ev := by
  have e1 : p1 gLen (pName i) ev = some (.fl (.int ds.length)) := by simp only [p1, pName, h, Pv.d, gLen, Option.map]
  have e2 : inLine (ds.length : Int) = true := inl_small (by omega) (by omega)
  simp only [aV, e1, aNil, kRng1, e2, if_true, Int.toNat_natCast]
theorem atI_int {ns : List Int} {i : Int} (h0 : 0 ≤ i) (h1 : i < ns.length) : atI (ns.map D.int) i = some (.int (ns.getD i.toNat 0)) := by
  have h2 : i.toNat < ns.length := by omega
  simp [atI, ixN, h0, h1, h2, List.getD]
@[simp low] theorem x_atI {α : Type} {xs : List α} {i : Int} (h0 : 0 ≤ i) (h1 : i < xs.length) : atI xs i = xs[i.toNat]? := by
  simp [atI, ixN, h0, h1]
@[simp] theorem flats_int {ns : List Int} : flats (ns.map D.int) = true := by
  induction ns with
  | nil => rfl
  | cons n ns ih => simp [ih]
@[simp] theorem ints_of {ns : List Int} : intsOf (ns.map D.int) = some ns := by
  induction ns with
  | nil => rfl
  | cons n ns ih => simp [intsOf, ih]
@[simp] theorem x_sum {ns : List Int} : gSum (.lst (ns.map D.int)) = some (.int ns.sum) := by simp [gSum]
end T6

namespace T6
open PySem PySem.Spec PyProof.Rows L2
variable [Tbl]
/-! ### equality of what is laid out -/
def Shp (n : Nat) (d : D) : Prop := (toPy d).canLay0 = true ∧ (toPy d).depth ≤ n
def Shps (n : Nat) (ds : List D) : Prop := PyData.canLayAll0 (toPys ds) = true ∧ PyData.depthAll (toPys ds) ≤ n
theorem shp_int {i : Int} : Shp 1 (.int i) := ⟨rfl, by simp [toPy, PyData.depth]⟩
theorem shp_bl {i : Bool} : Shp 1 (.bl i) := ⟨rfl, by simp [toPy, PyData.depth]⟩
theorem shps_nil {n : Nat} : Shps n [] := ⟨rfl, by simp [toPys, PyData.depthAll]⟩
theorem shps_cons {n : Nat} {d : D} {ds : List D} (h : Shp n d) (k : Shps n ds) : Shps n (d :: ds) := ⟨by simp only [toPys, PyData.canLayAll0, h.1, k.1, Bool.and_self], by simp only [toPys, PyData.depthAll]; exact Nat.max_le.mpr ⟨h.2, k.2⟩⟩
theorem shp_lst {n : Nat} {ds : List D} (k : Shps n ds) : Shp (n + 1) (.lst ds) := ⟨by simp only [toPy, PyData.canLay0, k.1], by simp only [toPy, PyData.depth]; have := k.2; omega⟩
theorem shp_tup {n : Nat} {ds : List D} (k : Shps n ds) : Shp (n + 1) (.tup ds) := ⟨by simp only [toPy, PyData.canLay0, k.1], by simp only [toPy, PyData.depth]; have := k.2; omega⟩
theorem Shp.le {n m : Nat} {d : D} (h : Shp n d) (l : n ≤ m) : Shp m d := ⟨h.1, Nat.le_trans h.2 l⟩
theorem shps_of {n : Nat} : ∀ {ds : List D}, (∀ d ∈ ds, Shp n d) → Shps n ds
  | [], _ => shps_nil
  | d :: ds, h => shps_cons (h d List.mem_cons_self) (shps_of fun e he => h e (List.mem_cons_of_mem _ he))
theorem shp_ints {ns : List Int} : Shp 2 (.lst (ns.map D.int)) := shp_lst (shps_of fun d hd => by
  obtain ⟨n, _, rfl⟩ := List.mem_map.mp hd
  exact shp_int)
theorem Shp.ok {n : Nat} {d : D} (h : Shp n d) (l : n ≤ 64) : SeqAt.shaped (toPy d) = true := by
  unfold SeqAt.shaped
  rw [h.1, decide_eq_true (Nat.le_trans h.2 l)]
  rfl
theorem gEq_tt {xs ys : List D} : gEq (.tup xs) (.tup ys) = if SeqAt.shaped (toPy (.tup xs)) = true ∧ SeqAt.shaped (toPy (.tup ys)) = true then some (.bl (eqD (.tup xs) (.tup ys))) else none := rfl
theorem gEq_ll {xs ys : List D} : gEq (.lst xs) (.lst ys) = if SeqAt.shaped (toPy (.lst xs)) = true ∧ SeqAt.shaped (toPy (.lst ys)) = true then some (.bl (eqD (.lst xs) (.lst ys))) else none := rfl
theorem eqD_refl {n : Nat} {d : D} (h : Shp n d) : eqD d d = true := SeqAt.eqv_refl _ h.1
theorem gEq_self_t {n : Nat} {xs : List D} (h : Shp n (.tup xs)) (l : n ≤ 64) : gEq (.tup xs) (.tup xs) = some (.bl true) := by rw [gEq_tt, if_pos ⟨h.ok l, h.ok l⟩, eqD_refl h]
theorem gEq_self_l {n : Nat} {xs : List D} (h : Shp n (.lst xs)) (l : n ≤ 64) : gEq (.lst xs) (.lst xs) = some (.bl true) := by rw [gEq_ll, if_pos ⟨h.ok l, h.ok l⟩, eqD_refl h]
theorem eqD_ints : ∀ {a b : List Int}, eqD (.lst (a.map D.int)) (.lst (b.map D.int)) = decide (a = b)
  | [], [] => rfl
  | [], _ :: _ => rfl
  | _ :: _, [] => rfl
  | x :: a, y :: b => by
    have ih := eqD_ints (a := a) (b := b)
    unfold eqD at ih ⊢
    simp only [toPy, PyData.eqv, List.map_cons, toPys, PyData.eqvAll] at ih ⊢
    rw [ih]
    by_cases h : x = y <;> by_cases k : a = b <;> simp [h, k]
theorem gEq_ints {a b : List Int} : gEq (.lst (a.map D.int)) (.lst (b.map D.int)) = some (.bl (decide (a = b))) := by rw [gEq_ll, if_pos ⟨shp_ints.ok (by decide), shp_ints.ok (by decide)⟩, eqD_ints]
end T6

namespace T6
open PySem PySem.Spec PyProof.Rows L2
variable [Tbl]
/-- a method without arguments that changes the list at a path -/
def mut0E (u : List D → D → Option (List D)) (i : Nat) (p : Ev → Option (List Nat)) : Ev → Rs MD := fun ev => match p ev with
  | some ks => match mutG u i ks (.dp, .non) ev with
    | some ev2 => .ok (.dp, .non) ev2
    | none => .no
  | none => .no
/-- one with one argument that is looked at -/
def mut1E (u : List D → D → Option (List D)) (i : Nat) (p : Ev → Option (List Nat)) (f : Ev → Option Pv) : Ev → Rs MD := fun ev => match p ev, f ev with
  | some ks, some pv => if flat pv.d = true then match mutG u i ks (.dp, pv.d) ev with
      | some ev2 => .ok (.dp, .non) ev2
      | none => .no
    else .no
  | _, _ => .no
section
variable {K : PySem.W.Frag} {C : Cs} {mg : Str → Option Value} {X : Cx} {W : WX} {a b e : Expr} {H H' H1 H2 : Hp} {O O' O1 O2 S S' S1 S2 L : Ps} {P P' : Nat → Prop} {σ τ : L2.St} {ev ev1 ev2 : Ev} {pos apos : Pos} {rs rs1 rs2 : List MD} {vs vs1 vs2 : List V} {es : List En}
theorem mutG_inv {u : List D → D → Option (List D)} {i : Nat} {ks : List Nat} {r : MD} (h : mutG u i ks r ev = some ev2) : ∃ m d0 ds, ev[i]? = some (some (m, d0)) ∧ getP ks d0 = some (.lst ds) ∧ (ks = [] ∨ m = .dp) := by
  unfold mutG at h
  split at h
  · rename_i d0 he
    split at h
    · rename_i x ds hg
      exact ⟨_, _, _, he, hg, .inr rfl⟩
    · cases h
  · rename_i ds he
    split at h
    · rename_i hk
      subst hk
      exact ⟨_, _, _, he, rfl, .inl rfl⟩
    · cases h
  · cases h
/-- the list at a path is a list -/
theorem pth_ty {i : Nat} {ks : List Nat} {m : Md} {d0 : D} {ds : List D} {v0 t : V} (ft : Fit ev σ) (gd : Good (KL K) H O S L (ents ev σ)) (he : ev[i]? = some (some (m, d0))) (hg : getP ks d0 = some (.lst ds)) (hk : ks = [] ∨ m = .dp) (hv : σ[i]? = some (some v0)) (hat : At H d0 v0 ks (.lst ds) t) : tyV K "list" t H := by
  obtain ⟨v0', own, e1, hent⟩ := slot_ent ft gd he
  rw [hv] at e1
  cases e1
  rcases hk with rfl | rfl
  · cases hg
    cases hat
    obtain ⟨f0, r0⟩ := hent.rep
    obtain ⟨a0, xs0, f1, rfl, rr0, q0⟩ := r0
    exact .inl ⟨rfl, xs0, sq_of q0⟩
  · obtain ⟨r0, tk⟩ := hent
    obtain ⟨f, rd, sub⟩ := hat.rep r0 tk
    obtain ⟨a0, xs0, f1, rfl, rr0, q0 | ⟨q0, _⟩⟩ := rd
    · exact .inl ⟨rfl, xs0, .inl q0.1⟩
    · exact q0.elim
theorem mut0_weak {u : List D → D → Option (List D)} {w : List V → V → List V} (ok : MutOk u w) {i : Nat} {p : Ev → Option (List Nat)} {r : V → List V → Hp → VK → Prop}
    (hr : ∀ q us H Q, H q = some (.lst us) → Q .non (upd H q (.lst (w us .non))) → r (.ref q) [] H Q) : ∀ σ H Q, tE (KL K) mg W (mut0E u i p) σ H Q → tBM0 K "list" r (tPth (KL K) i p) σ H Q := fun σ H Q => by
  rintro ⟨ev, O, S, L, ft, gd, k⟩
  unfold mut0E at k
  split at k
  · rename_i ks hp
    split at k
    · rename_i ev2 e7
      obtain ⟨m, d0, ds, he, hg, hk⟩ := mutG_inv e7
      refine ⟨ev, O, S, L, ft, gd, m, d0, ks, _, he, hp, hg, hk, fun v0 t hv hat => ⟨pth_ty ft gd he hg hk hv hat, ?_⟩⟩
      obtain ⟨O2, p1⟩ := (Pst.refl (P := fun _ => True) ft gd).flat (d := .non) (v := .non) (f := []) rfl ⟨rfl, rfl⟩
      obtain ⟨q, us, ds2, rfl, ed, hq, hl, _, O', S', p2⟩ := mut_ok ok p1 hv he hg hat e7
      refine hr q us H Q hq ?_
      obtain ⟨O4, p4⟩ := p2.flat (d := .non) (v := .non) (f := []) rfl ⟨rfl, rfl⟩
      exact k _ _ _ _ p4
    · exact k.elim
  · exact k.elim
theorem mut1_weak {u : List D → D → Option (List D)} {w : List V → V → List V} (ok : MutOk u w) {i : Nat} {p : Ev → Option (List Nat)} {f : Ev → Option Pv} {r : V → List V → Hp → VK → Prop}
    (hr : ∀ q us v H Q, H q = some (.lst us) → (∃ ds d ds', us.length = ds.length ∧ u ds d = some ds') → Q .non (upd H q (.lst (w us v))) → r (.ref q) [v] H Q) : ∀ σ H Q, tE (KL K) mg W (mut1E u i p f) σ H Q → L2.tBM K "list" r (tPth (KL K) i p) (tCons (tP (KL K) f) tNil) σ H Q := fun σ H Q => by
  rintro ⟨ev, O, S, L, ft, gd, k⟩
  unfold mut1E at k
  split at k
  · rename_i ks pv hp hf
    split at k
    · rename_i fl
      split at k
      · rename_i ev2 e7
        obtain ⟨m, d0, ds, he, hg, hk⟩ := mutG_inv e7
        refine ⟨ev, O, S, L, ft, gd, m, d0, ks, _, he, hp, hg, hk, fun v0 t hv hat => ⟨pth_ty ft gd he hg hk hv hat, ev, O, S, L, ft, gd, pv, hf, fun y hy => ?_⟩⟩
        obtain ⟨fy, ry⟩ := pv_rep hy
        obtain ⟨O2, p1⟩ := (Pst.refl (P := fun _ => True) ft gd).flat fl ry
        obtain ⟨q, us, ds2, rfl, ed, hq, hl, ⟨ds', hu⟩, O', S', p2⟩ := mut_ok ok p1 hv he hg hat e7
        refine hr q us y H Q hq ⟨_, _, _, hl, hu⟩ ?_
        obtain ⟨O4, p4⟩ := p2.flat (d := .non) (v := .non) (f := []) rfl ⟨rfl, rfl⟩
        exact k _ _ _ _ p4
      · exact k.elim
    · exact k.elim
  · exact k.elim
theorem rev_mut : MutOk revU (fun us _ => us.reverse) := fun ds vs d v ds' hl h C H f1 fo r1 r2 => by
  cases h
  have key : ∀ {ds : List D} {xs : List V} {fp : List Addr}, Reps C H ds xs fp → ∃ fq, Reps C H ds.reverse xs.reverse fq ∧ fq.Perm fp := by
    intro ds
    induction ds with
    | nil => intro xs fp r; obtain ⟨rfl, rfl⟩ : xs = [] ∧ fp = [] := r; exact ⟨[], ⟨rfl, rfl⟩, .refl _⟩
    | cons d ds ih =>
      intro xs fp r
      obtain ⟨v, vs, f1, f2, rfl, rfl, r1, r2⟩ := r
      obtain ⟨fq, r3, s3⟩ := ih r2
      refine ⟨fq ++ (f1 ++ []), ?_, ?_⟩
      · rw [List.reverse_cons, List.reverse_cons]
        exact r3.append ⟨v, [], f1, [], rfl, rfl, r1, ⟨rfl, rfl⟩⟩
      · rw [List.append_nil]
        exact (s3.append_right f1).trans List.perm_append_comm
  obtain ⟨fq, r3, pm⟩ := key r1
  exact ⟨fq, r3, fun a ha => List.mem_append_left _ (pm.mem_iff.mp ha), fun nd => pm.nodup_iff.mpr (List.nodup_append.mp nd).1⟩
theorem app_lt {us : List V} {ds ds' : List D} {d : D} (hl : us.length = ds.length) (hu : appU ds d = some ds') : us.length < sizeLine := by
  unfold appU at hu
  split at hu
  · rename_i hz; rw [hl]; exact hz
  · cases hu
section
variable {i : Nat} {p : Ev → Option (List Nat)} {f : Ev → Option Pv}
theorem e_reverse (ho : PE X a (tPth (KL X.K) i p)) (hbase : attributeBase a "reverse" X.env (eval a X.env) = eval a X.env := by rfl) (hline : (apos.endLine == pos.line) = true := by rfl) : PE X (.Call (.Attribute a "reverse" apos) [] [] pos) (tE (KL X.K) mg W (mut0E revU i p)) :=
  pe_weak (pe_bm0 PySem.F.plainAttrs_list PySem.F.slot_list_reverse PySem.F.type_list_reverse mt_reverse ho hbase hline) (mut0_weak rev_mut fun q us H Q h k => ⟨q, us, rfl, rfl, h, k⟩)
theorem e_clear (ho : PE X a (tPth (KL X.K) i p)) (hbase : attributeBase a "clear" X.env (eval a X.env) = eval a X.env := by rfl) (hline : (apos.endLine == pos.line) = true := by rfl) : PE X (.Call (.Attribute a "clear" apos) [] [] pos) (tE (KL X.K) mg W (mut0E clrU i p)) :=
  pe_weak (pe_bm0 PySem.F.plainAttrs_list PySem.F.slot_list_clear PySem.F.type_list_clear mt_clear ho hbase hline) (mut0_weak clr_mut fun q us H Q h k => ⟨q, us, rfl, rfl, h, k⟩)
theorem e_append (ho : PE X a (tPth (KL X.K) i p)) (he : PE X e (tP (KL X.K) f))
    (hbase : attributeBase a "append" X.env (eval a X.env) = eval a X.env := by rfl)
    (hfew : ((backTo pos (starEach [e] X.env)).all (fun x => !x.1) && (backToKw pos (keywordEach [] X.env)).all (fun x => x.1.isSome)
      && decide ([e].length + ([] : List Keyword).length + (if ([] : List Keyword).isEmpty then 0 else 1) < 30)) = true := by rfl)
    (hline : (apos.endLine == pos.line) = true := by rfl) (hs : starEach [e] X.env = (false, eval e X.env) :: starEach [] X.env := by rfl) (hplain : (backTo pos (starEach [] X.env)).any (·.1) = false := by rfl) :
    PE X (.Call (.Attribute a "append" apos) [e] [] pos) (tE (KL X.K) mg W (mut1E appU i p f)) :=
  pe_weak (pe_bm PySem.F.plainAttrs_list PySem.F.slot_list_append PySem.F.type_list_append mt_append ho (pa_cons he pa_nil hs) hbase hfew hline hs hplain) (mut1_weak app_mut fun q us v H Q h ⟨ds, d, ds', hl, hu⟩ k => ⟨q, us, v, rfl, rfl, h, app_lt hl hu, k⟩)
end
end
@[simp] theorem x_mut0E {u : List D → D → Option (List D)} {i : Nat} {p : Ev → Option (List Nat)} {ev : Ev} : mut0E u i p ev = (match p ev with
  | some ks => match mutG u i ks (.dp, .non) ev with
    | some ev2 => .ok (.dp, .non) ev2
    | none => .no
  | none => .no) := rfl
@[simp] theorem x_mut1E {u : List D → D → Option (List D)} {i : Nat} {p : Ev → Option (List Nat)} {f : Ev → Option Pv} {ev : Ev} : mut1E u i p f ev = (match p ev, f ev with
  | some ks, some pv => if flat pv.d = true then match mutG u i ks (.dp, pv.d) ev with
      | some ev2 => .ok (.dp, .non) ev2
      | none => .no
    else .no
  | _, _ => .no) := rfl
@[simp] theorem x_revU {ds : List D} {d : D} : revU ds d = some ds.reverse := rfl
@[simp] theorem x_clrU {ds : List D} {d : D} : clrU ds d = some [] := rfl
end T6

namespace T6
open PySem PySem.Spec PyProof.Rows L2
variable [Tbl]
theorem size_lt {n : Nat} (h : n < 1000000) : n < sizeLine := Nat.lt_of_lt_of_le h (by decide)
/-- a comprehension that only looks -/
theorem lc_pure {α : Type} {tgs own : List Nat} {test : Ev → Rs Bool} {elt : Ev → Rs MD} {ev : Ev} (it : α → List MD) (t : α → Bool) (e : α → D) (ht : ∀ i ∈ tgs, i < ev.length) : ∀ (xs : List α) (acc : List D), (∀ x ∈ xs, (it x).length = tgs.length) →
    (∀ x ∈ xs, test (asgn tgs (it x) ev) = .ok (t x) (asgn tgs (it x) ev)) → (∀ x ∈ xs, t x = true → elt (asgn tgs (it x) ev) = .ok (.dp, e x) (asgn tgs (it x) ev)) → (∀ x ∈ xs, wipeE own (asgn tgs (it x) ev) = ev) → acc.length + xs.length < 1000000 →
    lcG tgs own test elt (xs.map it) (.dp, .lst acc) ev = .ok (.dp, .lst (acc ++ (xs.filter t).map e)) ev
  | [], acc, _, _, _, _, _ => by simp
  | x :: xs, acc, h1, h2, h3, h4, hl => by
    have x1 := h1 x List.mem_cons_self
    have x2 := h2 x List.mem_cons_self
    have x4 := h4 x List.mem_cons_self
    have r1 := fun y hy => h1 y (List.mem_cons_of_mem x hy)
    have r2 := fun y hy => h2 y (List.mem_cons_of_mem x hy)
    have r3 := fun y hy => h3 y (List.mem_cons_of_mem x hy)
    have r4 := fun y hy => h4 y (List.mem_cons_of_mem x hy)
    rw [List.map_cons]
    cases htx : t x with
    | true =>
      have x3 := h3 x List.mem_cons_self htx
      rw [htx] at x2
      have ap : appM (.dp, .lst acc) (.dp, e x) = some (.dp, .lst (acc ++ [e x])) := by
        simp only [appM, if_pos (size_lt (show acc.length < 1000000 by simp at hl; omega)), true_or, if_true]
      rw [lc_yes ⟨x1, ht⟩ x2 x3 ap, x4, lc_pure it t e ht xs (acc ++ [e x]) r1 r2 r3 r4 (by simp at hl ⊢; omega)]
      simp [htx]
    | false =>
      rw [htx] at x2
      rw [lc_no ⟨x1, ht⟩ x2, x4, lc_pure it t e ht xs acc r1 r2 r3 r4 (by simp at hl; omega)]
      simp [htx]
/-- the same, ints of it, all of them -/
theorem lc_int {α : Type} {tgs own : List Nat} {test : Ev → Rs Bool} {elt : Ev → Rs MD} {ev : Ev} (it : α → List MD) (t : α → Bool) (g : α → Int) (xs : List α) (ht : ∀ i ∈ tgs, i < ev.length) (h1 : ∀ x ∈ xs, (it x).length = tgs.length)
    (h2 : ∀ x ∈ xs, test (asgn tgs (it x) ev) = .ok (t x) (asgn tgs (it x) ev)) (h3 : ∀ x ∈ xs, t x = true → elt (asgn tgs (it x) ev) = .ok (.dp, .int (g x)) (asgn tgs (it x) ev)) (h4 : ∀ x ∈ xs, wipeE own (asgn tgs (it x) ev) = ev) (hl : xs.length < 1000000) :
    ∃ ys : List Int, ys = (xs.filter t).map g ∧ lcG tgs own test elt (xs.map it) (.dp, .lst []) ev = .ok (.dp, .lst (ys.map D.int)) ev := by
  refine ⟨_, rfl, ?_⟩
  rw [lc_pure it t (fun x => .int (g x)) ht xs [] h1 h2 h3 h4 (by simpa using hl), List.nil_append, List.map_map]
  rfl
theorem lc_ints {α : Type} {tgs own : List Nat} {elt : Ev → Rs MD} {ev : Ev} (it : α → List MD) (g : α → Int) (xs : List α) (ht : ∀ i ∈ tgs, i < ev.length) (h1 : ∀ x ∈ xs, (it x).length = tgs.length)
    (h3 : ∀ x ∈ xs, elt (asgn tgs (it x) ev) = .ok (.dp, .int (g x)) (asgn tgs (it x) ev)) (h4 : ∀ x ∈ xs, wipeE own (asgn tgs (it x) ev) = ev) (hl : xs.length < 1000000) :
    ∃ ys : List Int, ys = xs.map g ∧ lcG tgs own tYesM elt (xs.map it) (.dp, .lst []) ev = .ok (.dp, .lst (ys.map D.int)) ev := by
  obtain ⟨ys, e, h⟩ := lc_int (test := tYesM) it (fun _ => true) g xs ht h1 (fun _ _ => rfl) (fun x hx _ => h3 x hx) h4 hl
  refine ⟨ys, by rw [e, List.filter_eq_self.mpr fun _ _ => rfl], h⟩
@[simp] theorem flats_app : ∀ {a b : List D}, flats (a ++ b) = (flats a && flats b)
  | [], b => by simp
  | d :: a, b => by simp [flats_app (a := a) (b := b), Bool.and_assoc]
theorem for_rt {tgs : List Nat} {b : Ev → Fl} {x : List MD} {xs : List (List MD)} {ev ev1 : Ev} {r : MD} (hl : x.length = tgs.length ∧ ∀ i ∈ tgs, i < ev.length) (h : b (asgn tgs x ev) = .rt r ev1) : forG tgs b (x :: xs) ev = .rt r ev1 := by
  simp only [forG, if_pos hl, h]
/-- a loop that looks for the first that .. -/
theorem for_find {α : Type} {tgs : List Nat} {b : Ev → Fl} {ev : Ev} (it : α → List MD) (p : α → Bool) (r : α → MD) (er : α → Ev) (ht : ∀ i ∈ tgs, i < ev.length) (hov : ∀ x y, asgn tgs (it x) (asgn tgs (it y) ev) = asgn tgs (it x) ev) (hx : ∀ x, (it x).length = tgs.length) : ∀ (xs : List α) (ev0 : Ev), (ev0 = ev ∨ ∃ y, ev0 = asgn tgs (it y) ev) →
    (∀ x ∈ xs, p x = true → b (asgn tgs (it x) ev) = .rt (r x) (er x)) → (∀ x ∈ xs, p x = false → b (asgn tgs (it x) ev) = .nx (asgn tgs (it x) ev)) →
    (∃ x, xs.find? p = some x ∧ forG tgs b (xs.map it) ev0 = .rt (r x) (er x)) ∨ (xs.find? p = none ∧ ∃ ev1, (ev1 = ev ∨ ∃ y, ev1 = asgn tgs (it y) ev) ∧ forG tgs b (xs.map it) ev0 = .nx ev1)
  | [], ev0, h0, _, _ => .inr ⟨rfl, ev0, h0, rfl⟩
  | x :: xs, ev0, h0, h1, h2 => by
    have e0 : asgn tgs (it x) ev0 = asgn tgs (it x) ev := by
      rcases h0 with rfl | ⟨y, rfl⟩
      · rfl
      · exact hov x y
    have l0 : ∀ i ∈ tgs, i < ev0.length := by
      rcases h0 with rfl | ⟨y, rfl⟩
      · exact ht
      · rw [asgn_len]; exact ht
    cases hp : p x with
    | true =>
      refine .inl ⟨x, by simp [hp], ?_⟩
      rw [List.map_cons]
      exact for_rt ⟨hx x, l0⟩ (by rw [e0]; exact h1 x List.mem_cons_self hp)
    | false =>
      have st := h2 x List.mem_cons_self hp
      have ih := for_find it p r er ht hov hx xs (asgn tgs (it x) ev) (.inr ⟨x, rfl⟩) (fun y hy => h1 y (List.mem_cons_of_mem _ hy)) fun y hy => h2 y (List.mem_cons_of_mem _ hy)
      have e1 : forG tgs b ((x :: xs).map it) ev0 = forG tgs b (xs.map it) (asgn tgs (it x) ev) := by
        rw [List.map_cons]
        exact for_cons ⟨hx x, l0⟩ (by rw [e0]; exact st)
      rw [e1, show (x :: xs).find? p = xs.find? p by simp [hp]]
      exact ih
theorem enumI_map {m : Md} : ∀ {ds : List D} {k : Nat}, enumI m k ds = (ds.zipIdx k).map fun p => [(Md.dp, D.int (p.2 : Int)), childM m p.1]
  | [], k => rfl
  | d :: ds, k => by simp only [enumI, List.zipIdx_cons, List.map_cons, enumI_map (ds := ds)]
end T6

namespace T6
open PySem PySem.Spec PyProof.Rows L2
variable [Tbl]
/-- tuple(x) -/
def kTupOf : List Ag → Ev → Rs MD := fun as ev => match as with
  | [.vl s (.lst ds)] => newT s ds ev
  | [.vl s (.tup ds)] => kidM s (.tup ds) ev
  | _ => .no
theorem k_tupOf {K : PySem.W.Frag} : KOk (KL K) (fun xs H Q => ∃ p ys, xs = [.ref p] ∧ ((SqL K H p ys ∧ ∀ l, H l = none → Q (.ref l) (upd H l (.tup ys))) ∨ (SqT K H p ys ∧ Q (.ref p) H))) kTupOf := fun mg W σ ev O S L H as vs tvs trs ev2 O2 S2 H2 Q p ar af => by
  unfold kTupOf at af
  split at af
  · rename_i s ds
    obtain ⟨x, fp, rfl, rfl, rfl, r1, s1, t1⟩ := argR_vals1 ar
    obtain ⟨a, xs, f1, rfl, rr, sq⟩ := r1
    have m1 : ∀ c ∈ f1, c ∈ fp := fun c h => by rcases sq with ⟨_, e⟩ | ⟨_, e⟩ <;> rw [e] <;> first | exact List.mem_cons_of_mem _ h | exact h
    obtain ⟨r4, k4, p4, _⟩ := newT_ok p rr (fun z c hc => t1 z c (m1 c hc)) af
    refine ⟨a, xs, rfl, .inl ⟨sq_of sq, fun q hq => ?_⟩⟩
    obtain ⟨O5, S5, p5⟩ := p4 q hq
    exact k4 _ _ _ _ p5
  · rename_i s ds
    obtain ⟨x, fp, rfl, rfl, rfl, r1, s1, t1⟩ := argR_vals1 ar
    obtain ⟨r4, O4, k4, p4⟩ := kid_ok p r1 t1 af
    obtain ⟨a, xs, rfl, sq, rr⟩ := r1
    exact ⟨a, xs, rfl, .inr ⟨.inl sq, k4 _ H2 O4 S2 p4⟩⟩
  · exact af.elim
@[simp] theorem x_tupOf1 {s : Bool} {ds : List D} {ev : Ev} : kTupOf [.vl s (.lst ds)] ev = newT s ds ev := rfl
@[simp] theorem x_tupOf2 {s : Bool} {ds : List D} {ev : Ev} : kTupOf [.vl s (.tup ds)] ev = kidM s (.tup ds) ev := rfl
end T6

namespace T6
open PySem PySem.Spec PyProof.Rows L2
variable [Tbl]
/-! ### what is wanted of an end -/
structure Ws where
  nx : Ev → Prop
  rt : MD → Ev → Prop
  bk : Ev → Prop
  ct : Ev → Prop
  ex : Str → Option MD → Ev → Prop
def Fl.wp (x : Fl) (W : Ws) : Prop := match x with
  | .nx e => W.nx e
  | .rt r e => W.rt r e
  | .bk e => W.bk e
  | .ct e => W.ct e
  | .ex c p e => W.ex c p e
  | .no => False
/-- of a def: N of what it gives, X of what it raises -/
def Rf.wp (x : Rf) (N : MD → Ev → Prop) (X : Str → Option MD → Ev → Prop) : Prop := match x with
  | .ok r fs => N r fs
  | .ex c p fs => X c p fs
  | .no => False
def noX : Str → Option MD → Ev → Prop := fun _ _ _ => False
def bodyW (ks : List Bool) (N : MD → Ev → Prop) (X : Str → Option MD → Ev → Prop) : Ws :=
  ⟨fun e => ks.length ≤ e.length ∧ N (.dp, .non) (finF ks e), fun r e => ks.length ≤ e.length ∧ N r (finF ks e), fun _ => False, fun _ => False, fun c p e => ks.length ≤ e.length ∧ X c p (finF ks e)⟩
theorem wp_bodyX {m : Nat} {ks : List Bool} {b : Ev → Fl} {es : List MD} {ev : Ev} {N : MD → Ev → Prop} {X : Str → Option MD → Ev → Prop} (hl : es.length = ks.length) (he : es.map some ++ List.replicate (m - ks.length) none = ev) (h : (b ev).wp (bodyW ks N X)) : (bodyF m ks b es).wp N X := by
  unfold bodyF
  rw [if_pos hl, he]
  cases hb : b ev with
  | nx e => rw [hb] at h; obtain ⟨h1, h2⟩ := h; simp only [if_pos h1]; exact h2
  | rt r e => rw [hb] at h; obtain ⟨h1, h2⟩ := h; simp only [if_pos h1]; exact h2
  | bk e => rw [hb] at h; exact h
  | ct e => rw [hb] at h; exact h
  | ex c p e => rw [hb] at h; obtain ⟨h1, h2⟩ := h; simp only [if_pos h1]; exact h2
  | no => rw [hb] at h; exact h
theorem wp_ok {x : Rf} {N : MD → Ev → Prop} (h : x.wp N noX) : ∃ r fs, x = .ok r fs ∧ N r fs := by
  cases x with
  | ok r fs => exact ⟨r, fs, rfl, h⟩
  | ex c p fs => exact h.elim
  | no => exact h.elim
theorem wp_of {x : Rf} {r : MD} {fs : Ev} (h : x = .ok r fs) {N : MD → Ev → Prop} {X : Str → Option MD → Ev → Prop} (k : N r fs) : x.wp N X := by rw [h]; exact k
theorem wp_eq {x : Rf} {r : MD} {fs : Ev} (h : x.wp (fun r' fs' => r' = r ∧ fs' = fs) noX) : x = .ok r fs := by
  obtain ⟨_, _, e, rfl, rfl⟩ := wp_ok h
  exact e
theorem law_of {x : Rf} (h : x.wp (fun r _ => r.2 = .bl true) noX) : ∃ m fs, x = .ok (m, .bl true) fs := by
  obtain ⟨⟨m, d⟩, fs, e, rfl⟩ := wp_ok h
  exact ⟨m, fs, e⟩
@[simp] theorem atI_last {α : Type} {xs : List α} {x : α} : atI (xs ++ [x]) (-1) = some x := by
  have h : ixN (xs ++ [x]).length (-1) = some xs.length := by
    unfold ixN
    simp
    omega
  rw [List.length_append] at h
  unfold atI
  rw [List.length_append, h]
  simp
/-- a def without exceptions, at given arguments -/
theorem wp_body {m : Nat} {ks : List Bool} {b : Ev → Fl} {es : List MD} {ev : Ev} {N : MD → Ev → Prop} (hl : es.length = ks.length) (he : es.map some ++ List.replicate (m - ks.length) none = ev) (h : (b ev).wp (bodyW ks N noX)) : ∃ r fs, bodyF m ks b es = .ok r fs ∧ N r fs := wp_ok (wp_bodyX hl he h)
variable {s t : Ev → Fl} {ev ev' : Ev} {W : Ws} {r : MD}
theorem wp_seq (h : (s ev).wp { W with nx := fun e => (t e).wp W }) : (seqS s t ev).wp W := by
  rw [x_seq]
  cases hs : s ev <;> rw [hs] at h <;> exact h
theorem wp_step (h : s ev = .nx ev') (k : (t ev').wp W) : (seqS s t ev).wp W := by rw [x_seq, h]; exact k
theorem wp_stepR (h : s ev = .rt r ev') (k : W.rt r ev') : (seqS s t ev).wp W := by rw [x_seq, h]; exact k
theorem wp_nx (h : s ev = .nx ev') (k : W.nx ev') : (s ev).wp W := by rw [h]; exact k
theorem wp_rt (h : s ev = .rt r ev') (k : W.rt r ev') : (s ev).wp W := by rw [h]; exact k
theorem wp_bk (h : s ev = .bk ev') (k : W.bk ev') : (s ev).wp W := by rw [h]; exact k
theorem wp_ct (h : s ev = .ct ev') (k : W.ct ev') : (s ev).wp W := by rw [h]; exact k
theorem wp_if {c : Ev → Rs Bool} {b : Bool} (h : c ev = .ok b ev') (k1 : b = true → (s ev').wp W) (k2 : b = false → (t ev').wp W) : (ifS c s t ev).wp W := by
  rw [x_ifS, h, x_bnd1]
  cases b with
  | true => exact k1 rfl
  | false => exact k2 rfl
theorem wp_ifP {c : Ev → Option Bool} {b : Bool} (h : c ev = some b) (k1 : b = true → (s ev).wp W) (k2 : b = false → (t ev).wp W) : (ifP c s t ev).wp W := by
  rw [x_ifP, h]
  cases b with
  | true => exact k1 rfl
  | false => exact k2 rfl
theorem wp_for {src : Ev → Rs (List (List MD))} {tgs : List Nat} {b : Ev → Fl} {items : List (List MD)} (hs : src ev = .ok items ev') (I : Nat → Ev → Prop) (h0 : I 0 ev')
    (st : ∀ (i : Nat) x e, items[i]? = some x → I i e → x.length = tgs.length ∧ (∀ j ∈ tgs, j < e.length) ∧ (b (asgn tgs x e)).wp ⟨I (i + 1), W.rt, W.nx, I (i + 1), W.ex⟩) (dn : ∀ e, I items.length e → W.nx e) : (forS src tgs b ev).wp W := by
  rw [x_for, hs, x_bnd1]
  have key : ∀ (xs : List (List MD)) (i : Nat) (e : Ev), items.drop i = xs → i ≤ items.length → I i e → (forG tgs b xs e).wp W := by
    intro xs
    induction xs with
    | nil =>
      intro i e hd hi hI
      have : i = items.length := by have := List.drop_eq_nil_iff.mp hd; omega
      subst this
      exact dn e hI
    | cons x xs ih =>
      intro i e hd hi hI
      have h1 : items[i]? = some x := by
        have := congrArg List.head? hd
        simpa using this
      have hi2 : i < items.length := (List.getElem?_eq_some_iff.mp h1).1
      have h2 : items.drop (i + 1) = xs := by
        rw [← List.tail_drop, hd]; rfl
      obtain ⟨l1, l2, w⟩ := st i x e h1 hI
      unfold forG
      rw [if_pos ⟨l1, l2⟩]
      cases hb : b (asgn tgs x e) with
      | nx e1 => rw [hb] at w; exact ih (i + 1) e1 h2 hi2 w
      | ct e1 => rw [hb] at w; exact ih (i + 1) e1 h2 hi2 w
      | bk e1 => rw [hb] at w; exact w
      | rt r e1 => rw [hb] at w; exact w
      | ex c p e1 => rw [hb] at w; exact w
      | no => rw [hb] at w; exact w
  exact key items 0 ev' rfl (by omega) h0
theorem rngI_get {lo : Int} {n i : Nat} {x : List MD} (h : (rngI lo n)[i]? = some x) : i < n ∧ x = [(Md.dp, D.int (lo + i))] := by
  unfold rngI at h
  rw [List.getElem?_map] at h
  obtain ⟨k, hk, rfl⟩ := Option.map_eq_some_iff.mp h
  obtain ⟨h1, h2⟩ := List.getElem?_eq_some_iff.mp hk
  simp at h1 h2
  subst h2
  exact ⟨h1, rfl⟩
theorem rngI_len {lo : Int} {n : Nat} : (rngI lo n).length = n := by simp [rngI]
/-- a loop over a range -/
theorem wp_rng {src : Ev → Rs (List (List MD))} {tg : Nat} {b : Ev → Fl} {lo : Int} {n : Nat} (hs : src ev = .ok (rngI lo n) ev') (I : Nat → Ev → Prop) (h0 : I 0 ev')
    (st : ∀ (i : Nat) e, i < n → I i e → tg < e.length ∧ (b (e.set tg (some (.dp, .int (lo + i))))).wp ⟨I (i + 1), W.rt, W.nx, I (i + 1), W.ex⟩) (dn : ∀ e, I n e → W.nx e) : (forS src [tg] b ev).wp W :=
  wp_for hs I h0 (fun i x e hx hI => by
    obtain ⟨h1, rfl⟩ := rngI_get hx
    obtain ⟨h2, h3⟩ := st i e h1 hI
    exact ⟨rfl, by simpa using h2, h3⟩) (fun e h => dn e (by rwa [rngI_len] at h))
/-- a loop over a list's items -/
theorem wp_kids {src : Ev → Rs (List (List MD))} {tg : Nat} {b : Ev → Fl} {m : Md} {ds : List D} (hs : src ev = .ok (kidsL m ds) ev') (I : Nat → Ev → Prop) (h0 : I 0 ev')
    (st : ∀ (i : Nat) x e, ds[i]? = some x → I i e → tg < e.length ∧ (b (e.set tg (some (childM m x)))).wp ⟨I (i + 1), W.rt, W.nx, I (i + 1), W.ex⟩) (dn : ∀ e, I ds.length e → W.nx e) : (forS src [tg] b ev).wp W :=
  wp_for hs I h0 (fun i x e hx hI => by
    unfold kidsL at hx
    rw [List.getElem?_map] at hx
    obtain ⟨d, hd, rfl⟩ := Option.map_eq_some_iff.mp hx
    obtain ⟨h2, h3⟩ := st i d e hd hI
    exact ⟨rfl, by simpa using h2, h3⟩) (fun e h => dn e (by simpa [kidsL] using h))
/-- a loop over ints -/
theorem wp_ints {src : Ev → Rs (List (List MD))} {tg : Nat} {b : Ev → Fl} {ns : List Int} (hs : src ev = .ok (intsL ns) ev') (I : Nat → Ev → Prop) (h0 : I 0 ev')
    (st : ∀ (i : Nat) x e, ns[i]? = some x → I i e → tg < e.length ∧ (b (e.set tg (some (.dp, .int x)))).wp ⟨I (i + 1), W.rt, W.nx, I (i + 1), W.ex⟩) (dn : ∀ e, I ns.length e → W.nx e) : (forS src [tg] b ev).wp W :=
  wp_for hs I h0 (fun i x e hx hI => by
    unfold intsL at hx
    rw [List.getElem?_map] at hx
    obtain ⟨d, hd, rfl⟩ := Option.map_eq_some_iff.mp hx
    obtain ⟨h2, h3⟩ := st i d e hd hI
    exact ⟨rfl, by simpa using h2, h3⟩) (fun e h => dn e (by simpa [intsL] using h))
/-- enumerate -/
theorem wp_enum {src : Ev → Rs (List (List MD))} {tg tg2 : Nat} {b : Ev → Fl} {m : Md} {ds : List D} (hs : src ev = .ok (enumI m 0 ds) ev') (I : Nat → Ev → Prop) (h0 : I 0 ev')
    (st : ∀ (i : Nat) x e, ds[i]? = some x → I i e → tg < e.length ∧ tg2 < e.length ∧ (b ((e.set tg (some (.dp, .int (i : Int)))).set tg2 (some (childM m x)))).wp ⟨I (i + 1), W.rt, W.nx, I (i + 1), W.ex⟩) (dn : ∀ e, I ds.length e → W.nx e) : (forS src [tg, tg2] b ev).wp W :=
  wp_for hs I h0 (fun i x e hx hI => by
    obtain ⟨d, hd, rfl⟩ := enumI_get hx
    obtain ⟨h2, h4, h3⟩ := st i d e hd hI
    rw [Nat.zero_add]
    exact ⟨rfl, by simpa using ⟨h2, h4⟩, h3⟩) (fun e h => dn e (by rwa [enumI_len] at h))
/-- zip -/
theorem wp_zip {src : Ev → Rs (List (List MD))} {tg tg2 : Nat} {b : Ev → Fl} {m m2 : Md} {ds es : List D} (hs : src ev = .ok (zipI m m2 ds es) ev') (I : Nat → Ev → Prop) (h0 : I 0 ev')
    (st : ∀ (i : Nat) x y e, ds[i]? = some x → es[i]? = some y → I i e → tg < e.length ∧ tg2 < e.length ∧ (b ((e.set tg (some (childM m x))).set tg2 (some (childM m2 y)))).wp ⟨I (i + 1), W.rt, W.nx, I (i + 1), W.ex⟩) (dn : ∀ e, I (min ds.length es.length) e → W.nx e) : (forS src [tg, tg2] b ev).wp W :=
  wp_for hs I h0 (fun i x e hx hI => by
    obtain ⟨d, d2, hd, hd2, rfl⟩ := zipI_get hx
    obtain ⟨h2, h4, h3⟩ := st i d d2 e hd hd2 hI
    exact ⟨rfl, by simpa using ⟨h2, h4⟩, h3⟩) (fun e h => dn e (by rwa [zipI_len] at h))
/-- a comprehension's turns, any -/
theorem lc_inv {tgs own : List Nat} {test : Ev → Rs Bool} {elt : Ev → Rs MD} {items : List (List MD)} (I : Nat → MD → Ev → Prop) (h0 : I 0 (.dp, .lst []) ev)
    (st : ∀ (i : Nat) x acc e, items[i]? = some x → I i acc e → x.length = tgs.length ∧ (∀ j ∈ tgs, j < e.length) ∧ ((∃ e1, test (asgn tgs x e) = .ok false e1 ∧ I (i + 1) acc (wipeE own e1)) ∨ ∃ e1 r e2 acc', test (asgn tgs x e) = .ok true e1 ∧ elt e1 = .ok r e2 ∧ appM acc r = some acc' ∧ I (i + 1) acc' (wipeE own e2))) :
    ∃ acc e, lcG tgs own test elt items (.dp, .lst []) ev = .ok acc e ∧ I items.length acc e := by
  have key : ∀ (xs : List (List MD)) (i : Nat) (acc : MD) (e : Ev), items.drop i = xs → i ≤ items.length → I i acc e → ∃ acc' e', lcG tgs own test elt xs acc e = .ok acc' e' ∧ I items.length acc' e' := by
    intro xs
    induction xs with
    | nil =>
      intro i acc e hd hi hI
      have : i = items.length := by have := List.drop_eq_nil_iff.mp hd; omega
      subst this
      exact ⟨acc, e, rfl, hI⟩
    | cons x xs ih =>
      intro i acc e hd hi hI
      have h1 : items[i]? = some x := by
        have := congrArg List.head? hd
        simpa using this
      have hi2 : i < items.length := (List.getElem?_eq_some_iff.mp h1).1
      have h2 : items.drop (i + 1) = xs := by
        rw [← List.tail_drop, hd]; rfl
      obtain ⟨l1, l2, w | ⟨e1, r, e2, acc', w1, w2, w3, w4⟩⟩ := st i x acc e h1 hI
      · obtain ⟨e1, w1, w2⟩ := w
        rw [lc_no ⟨l1, l2⟩ w1]
        exact ih (i + 1) acc _ h2 hi2 w2
      · rw [lc_yes ⟨l1, l2⟩ w1 w2 w3]
        exact ih (i + 1) acc' _ h2 hi2 w4
  exact key items 0 _ ev rfl (by omega) h0
/-- drawing ints, one a turn: all states between are of one row -/
theorem lc_draw {tgs own : List Nat} {elt : Ev → Rs MD} {items : List (List MD)} {α : Type} {n : Nat} (hn : items.length = n) (S : Nat → α → Ev) (Q : Nat → α → Prop) (P : Int → Prop) {a : α} (h0 : S 0 a = ev) (q0 : Q 0 a) (hb : items.length < 1000000)
    (st : ∀ (i : Nat) x a, items[i]? = some x → Q i a → x.length = tgs.length ∧ (∀ j ∈ tgs, j < (S i a).length) ∧ ∃ v a' e2, P v ∧ Q (i + 1) a' ∧ elt (asgn tgs x (S i a)) = .ok (.dp, .int v) e2 ∧ wipeE own e2 = S (i + 1) a') :
    ∃ (vs : List Int) (a' : α), vs.length = n ∧ (∀ v ∈ vs, P v) ∧ Q n a' ∧ lcG tgs own tYesM elt items (.dp, .lst []) ev = .ok (.dp, .lst (vs.map D.int)) (S n a') := by
  obtain ⟨acc, e, h, vs, a', h1, h2, h3, rfl, rfl⟩ := lc_inv (tgs := tgs) (own := own) (test := tYesM) (elt := elt) (items := items) (ev := ev) (fun i acc e => ∃ (vs : List Int) (a : α), vs.length = i ∧ (∀ v ∈ vs, P v) ∧ Q i a ∧ acc = (.dp, .lst (vs.map D.int)) ∧ e = S i a)
    ⟨[], a, rfl, by simp, q0, rfl, h0.symm⟩ (fun i x acc e hx hI => by
      obtain ⟨vs, a, h1, h2, h3, rfl, rfl⟩ := hI
      obtain ⟨l1, l2, v, a', e2, p, q, he, hw⟩ := st i x a hx h3
      refine ⟨l1, l2, .inr ⟨_, _, _, (.dp, .lst ((vs ++ [v]).map D.int)), rfl, he, ?_, vs ++ [v], a', by simp [h1], ?_, q, rfl, hw⟩⟩
      · have hi2 : i < items.length := (List.getElem?_eq_some_iff.mp hx).1
        have : (vs.map D.int).length < sizeLine := Nat.lt_of_lt_of_le (show _ < 1000000 by simp [h1]; omega) (by decide)
        simp only [appM, if_pos this]
        simp
      · intro w hw
        rcases List.mem_append.mp hw with hw | hw
        · exact h2 w hw
        · simp at hw; subst hw; exact p)
  subst hn
  exact ⟨vs, a', h1, h2, h3, h⟩
end T6

namespace T6
open PySem PySem.Spec PyProof.Rows L2
variable [Tbl]
/-! ### equality of plain things -/
mutual
/-- None, ints, texts, tuples and lists of such -/
def pln : D → Bool
  | .non => true
  | .int _ => true
  | .str x => PyData.canLay0 (.str x)
  | .tup ds => plns ds
  | .lst ds => plns ds
  | .bl _ => false
  | .dct _ _ => false
  | .err _ _ => false
def plns : List D → Bool
  | [] => true
  | d :: ds => pln d && plns ds
end
mutual
def dpt : D → Nat
  | .tup ds => dpts ds + 1
  | .lst ds => dpts ds + 1
  | .non => 0
  | .int _ => 0
  | .str _ => 0
  | .bl _ => 0
  | .dct _ _ => 0
  | .err _ _ => 0
def dpts : List D → Nat
  | [] => 0
  | d :: ds => max (dpt d) (dpts ds)
end
noncomputable instance : DecidableEq D := fun a b => Classical.propDecidable (a = b)
mutual
theorem pln_lay : ∀ {d : D}, pln d = true → (toPy d).canLay0 = true ∧ (toPy d).depth = dpt d
  | .non, _ => ⟨rfl, rfl⟩
  | .int _, _ => ⟨rfl, rfl⟩
  | .str _, h => ⟨h, rfl⟩
  | .tup ds, h => by
    obtain ⟨a, b⟩ := plns_lay (ds := ds) (by simpa [pln] using h)
    exact ⟨by simpa [toPy, PyData.canLay0] using a, by simp [toPy, PyData.depth, dpt, b]⟩
  | .lst ds, h => by
    obtain ⟨a, b⟩ := plns_lay (ds := ds) (by simpa [pln] using h)
    exact ⟨by simpa [toPy, PyData.canLay0] using a, by simp [toPy, PyData.depth, dpt, b]⟩
  | .bl _, h => by simp [pln] at h
  | .dct _ _, h => by simp [pln] at h
  | .err _ _, h => by simp [pln] at h
theorem plns_lay : ∀ {ds : List D}, plns ds = true → PyData.canLayAll0 (toPys ds) = true ∧ PyData.depthAll (toPys ds) = dpts ds
  | [], _ => ⟨rfl, rfl⟩
  | d :: ds, h => by
    have h' : pln d = true ∧ plns ds = true := by simpa [plns] using h
    obtain ⟨a, b⟩ := pln_lay h'.1
    obtain ⟨c, e⟩ := plns_lay h'.2
    exact ⟨by simp [toPys, PyData.canLayAll0, a, c], by simp [toPys, PyData.depthAll, dpts, b, e]⟩
end
mutual
theorem eqD_pl : ∀ {d e : D}, pln d = true → pln e = true → eqD d e = decide (d = e)
  | .non, e, _, k => by cases e <;> simp [pln, eqD, toPy, PyData.eqv] at k ⊢
  | .int i, e, _, k => by
    cases e <;> simp [pln, eqD, toPy, PyData.eqv] at k ⊢
    rename_i j
    by_cases h : i = j <;> simp [h]
  | .str i, e, _, k => by
    cases e <;> simp [pln, eqD, toPy, PyData.eqv] at k ⊢
    rename_i j
    by_cases h : i = j <;> simp [h]
  | .tup ds, e, h, k => by
    cases e <;> first | (simp [pln, eqD, toPy, PyData.eqv] at k ⊢; done) | skip
    rename_i es
    have := eqDs_pl (ds := ds) (es := es) (by simpa [pln] using h) (by simpa [pln] using k)
    simp only [eqD, toPy, PyData.eqv, this]
    by_cases q : ds = es <;> simp [q]
  | .lst ds, e, h, k => by
    cases e <;> first | (simp [pln, eqD, toPy, PyData.eqv] at k ⊢; done) | skip
    rename_i es
    have := eqDs_pl (ds := ds) (es := es) (by simpa [pln] using h) (by simpa [pln] using k)
    simp only [eqD, toPy, PyData.eqv, this]
    by_cases q : ds = es <;> simp [q]
  | .bl _, _, h, _ => by simp [pln] at h
  | .dct _ _, _, h, _ => by simp [pln] at h
  | .err _ _, _, h, _ => by simp [pln] at h
theorem eqDs_pl : ∀ {ds es : List D}, plns ds = true → plns es = true → PyData.eqvAll (toPys ds) (toPys es) = decide (ds = es)
  | [], [], _, _ => by simp [toPys, PyData.eqvAll]
  | [], _ :: _, _, _ => by simp [toPys, PyData.eqvAll]
  | _ :: _, [], _, _ => by simp [toPys, PyData.eqvAll]
  | d :: ds, e :: es, h, k => by
    have h' : pln d = true ∧ plns ds = true := by simpa [plns] using h
    have k' : pln e = true ∧ plns es = true := by simpa [plns] using k
    have a := eqD_pl h'.1 k'.1
    have b := eqDs_pl h'.2 k'.2
    unfold eqD at a
    simp only [toPys, PyData.eqvAll, a, b]
    by_cases q : d = e <;> by_cases r : ds = es <;> simp [q, r]
end
theorem pln_shaped {d : D} (h : pln d = true) (l : dpt d ≤ 64) : SeqAt.shaped (toPy d) = true := by
  obtain ⟨a, b⟩ := pln_lay h
  unfold SeqAt.shaped
  rw [a, b, decide_eq_true l]
  rfl
theorem gEq_pl {d e : D} (h : pln d = true) (k : pln e = true) (l : dpt d ≤ 64) (l2 : dpt e ≤ 64) : gEq d e = some (.bl (decide (d = e))) := by
  have s1 := pln_shaped h l
  have s2 := pln_shaped k l2
  have q := eqD_pl h k
  unfold gEq
  split
  case h_11 => rw [if_pos ⟨s1, s2⟩, q]
  all_goals simp
theorem eqS_pl {d e : D} (h : pln d = true) (k : pln e = true) (f : flatS d = true) (g : flatS e = true) : eqS d e = decide (d = e) := by
  cases d <;> cases e <;> simp [pln, flatS, eqS] at h k f g ⊢ <;> (rename_i a b; by_cases z : a = b <;> simp [z])
theorem plns_mem : ∀ {ds : List D}, plns ds = true → ∀ d ∈ ds, pln d = true ∧ dpt d ≤ dpts ds
  | [], _, d, hd => by simp at hd
  | x :: ds, h, d, hd => by
    have h' : pln x = true ∧ plns ds = true := by simpa [plns] using h
    simp only [dpts]
    rcases List.mem_cons.mp hd with rfl | hd
    · exact ⟨h'.1, by omega⟩
    · obtain ⟨a, b⟩ := plns_mem h'.2 d hd
      exact ⟨a, by omega⟩
theorem any_pl {d : D} {f : D → D → Bool} : ∀ {es : List D}, (∀ y ∈ es, f y d = decide (y = d)) → (es.any fun y => f y d) = decide (d ∈ es)
  | [], _ => by simp
  | e :: es, h => by
    rw [List.any_cons, h e List.mem_cons_self, any_pl fun y hy => h y (List.mem_cons_of_mem _ hy)]
    by_cases q : e = d
    · simp [q]
    · have q' : ¬ d = e := fun z => q z.symm
      simp [q, q']
theorem gIn_pl {d : D} {es : List D} (h : pln d = true) (k : plns es = true) (l : dpt d ≤ 64) (l2 : dpts es ≤ 63) : gIn d (.lst es) = some (.bl (decide (d ∈ es))) := by
  unfold gIn
  dsimp only
  split
  · rename_i z
    rw [any_pl fun y hy => eqS_pl (plns_mem k y hy).1 h (List.all_eq_true.mp z.2 y hy) z.1]
  · rw [if_pos ⟨pln_shaped h l, pln_shaped (d := .lst es) (by simpa [pln] using k) (by simp only [dpt]; omega)⟩, any_pl fun y hy => eqD_pl (plns_mem k y hy).1 h]
theorem gIn_plt {d : D} {es : List D} (h : pln d = true) (k : plns es = true) (f : flatS d = true) (g : es.all flatS = true) : gIn d (.tup es) = some (.bl (decide (d ∈ es))) := by
  unfold gIn
  dsimp only
  rw [if_pos ⟨f, g⟩, any_pl fun y hy => eqS_pl (plns_mem k y hy).1 h (List.all_eq_true.mp g y hy) f]
theorem plns_map {α : Type} {f : α → D} (h : ∀ x, pln (f x) = true) : ∀ xs : List α, plns (xs.map f) = true
  | [] => rfl
  | x :: xs => by simp [plns, h, plns_map h xs]
theorem plns_mapm {α : Type} {f : α → D} : ∀ xs : List α, (∀ x ∈ xs, pln (f x) = true) → plns (xs.map f) = true
  | [], _ => rfl
  | x :: xs, h => by simp [plns, h x List.mem_cons_self, plns_mapm xs fun y hy => h y (List.mem_cons_of_mem _ hy)]
theorem dpts_map {α : Type} {f : α → D} {n : Nat} (h : ∀ x, dpt (f x) ≤ n) : ∀ xs : List α, dpts (xs.map f) ≤ n
  | [] => by simp [dpts]
  | x :: xs => by
    have := h x
    have := dpts_map h xs
    simp only [List.map_cons, dpts]
    omega
@[simp] theorem plns_ints {ns : List Int} : plns (ns.map D.int) = true := plns_map (fun _ => rfl) ns
@[simp] theorem dpts_ints {ns : List Int} : dpts (ns.map D.int) = 0 := Nat.le_zero.mp (dpts_map (fun _ => by simp [dpt]) ns)
@[simp] theorem plns_app : ∀ {a b : List D}, plns (a ++ b) = (plns a && plns b)
  | [], b => by simp [plns]
  | d :: a, b => by simp [plns, plns_app (a := a) (b := b), Bool.and_assoc]
@[simp] theorem dpts_app : ∀ {a b : List D}, dpts (a ++ b) = max (dpts a) (dpts b)
  | [], b => by simp [dpts]
  | d :: a, b => by simp [dpts, dpts_app (a := a) (b := b), Nat.max_assoc]
theorem int_inj : ∀ {a b : List Int}, a.map D.int = b.map D.int ↔ a = b
  | [], [] => by simp
  | [], _ :: _ => by simp
  | _ :: _, [] => by simp
  | x :: a, y :: b => by simp [int_inj (a := a) (b := b)]
theorem mem_ints {n : Int} {ns : List Int} : D.int n ∈ ns.map D.int ↔ n ∈ ns := by simp
end T6

namespace T6
open PySem PySem.Spec PyProof.Rows L2
variable [Tbl]
/-! ### more words -/
/-- what is never come to -/
def neverS : Ev → Fl := fun _ => .no
def lrgK (r : MD) (ev : Ev) : Rs MD := match r.2 with
  | .int n => if 0 ≤ n ∧ n ≤ 1000000 then .ok (.dp, .lst ((List.range n.toNat).map fun (i : Nat) => D.int (i : Int))) ev else .no
  | _ => .no
/-- list(range(n)) -/
def lrg1 (f : Ev → Rs MD) : Ev → Rs MD := fun ev => (f ev).bind lrgK
/-- x.insert(i, e) -/
noncomputable def insOk (n : Int) : Bool := @decide (0 ≤ n ∧ n < 1000000) (Classical.propDecidable _)
theorem insOk_iff {n : Int} : insOk n = true ↔ 0 ≤ n ∧ n < 1000000 := by unfold insOk; exact @decide_eq_true_iff _ (Classical.propDecidable _)
noncomputable def insK2 (i : Nat) (n : Int) (r : MD) (ev2 : Ev) : Rs MD := if insOk n = true then match mutG (insU n.toNat) i [] r ev2 with
  | some ev3 => .ok (.dp, .non) ev3
  | none => .no
  else .no
noncomputable def insK (i : Nat) (g : Ev → Rs MD) (a : MD) (ev1 : Ev) : Rs MD := match a.2 with
  | .int n => (g ev1).bind (insK2 i n)
  | _ => .no
noncomputable def insE (i : Nat) (f g : Ev → Rs MD) : Ev → Rs MD := fun ev => match ev[i]? with
  | some (some (_, .lst _)) => (f ev).bind (insK i g)
  | _ => .no
/-- x.extend(e) -/
def extK (i : Nat) (r : MD) (ev1 : Ev) : Rs MD := match ev1[i]?, r with
  | some (some (m, .lst ds)), (mr, .lst zs) => if (m = .dp ∨ m = .rt) ∧ (mr = .dp ∨ mr = .rt) ∧ ds.length + zs.length ≤ sizeLine then .ok (.dp, .non) (ev1.set i (some (if flats (ds ++ zs) = true then .dp else .rt, .lst (ds ++ zs)))) else .no
  | _, _ => .no
def extE (i : Nat) (f : Ev → Rs MD) : Ev → Rs MD := fun ev => match ev[i]? with
  | some (some (_, .lst _)) => (f ev).bind (extK i)
  | _ => .no
def gIsTs (Ts : List String) (d : D) : Option D := if isErr d = false then some (.bl (Ts.any fun T => isT T d)) else none
section
variable {K : PySem.W.Frag} {C : Cs} {mg : Str → Option Value} {X : Cx} {W : WX} {a b e e2 : Expr} {H H' H1 H2 : Hp} {O O' O1 O2 S S' S1 S2 L : Ps} {P P' : Nat → Prop} {σ τ : L2.St} {ev ev1 ev2 : Ev} {pos p2 apos p1 p3 : Pos} {rs rs1 rs2 : List MD} {vs vs1 vs2 : List V} {es : List En} {x : Str} {i : Nat} {f g : Ev → Rs MD}
theorem s_never {st : Stmt} : PS X st (tS C mg P W neverS) := ps_weak ps_never fun D σ H => by
  rintro ⟨ev, O, S, L, ft, gd, k⟩
  exact k
theorem e_lrg1 (hc : X.calm = true) (hl : Gl X "list") (hml : X.mg "list" = none) (hr : Gl X "range") (hmr : X.mg "range" = none) (ha : PE X a (tE (KL X.K) mg W f))
    (na : starEach [a] X.env = (false, eval a X.env) :: starEach [] X.env := by rfl)
    (nb : starEach [.Call (.Name "range" p2) [a] [] p3] X.env = (false, eval (.Call (.Name "range" p2) [a] [] p3) X.env) :: starEach [] X.env := by rfl) :
    PE X (.Call (.Name "list" p1) [.Call (.Name "range" p2) [a] [] p3] [] pos) (tE (KL X.K) mg W (lrg1 f)) :=
  pe_weak (pe_listRg hc hl hml (prg_1 hr hmr ha na) nb) fun σ H Q => by
    rintro ⟨ev, O, S, L, ft, gd, k⟩
    refine ⟨ev, O, S, L, ft, gd, aft_bind k fun r ev1 k1 v H1 O1 S1 p => ?_⟩
    unfold lrgK at k1
    split at k1
    · rename_i n hn
      split at k1
      · rename_i hz
        obtain ⟨fp, rr⟩ := p.rep1
        rw [hn] at rr
        cases rep_int rr
        refine ⟨n, rfl, RgOk.of_le (by omega) (by omega) (by omega) (by omega), fun q hq => ?_⟩
        obtain ⟨O2, p2⟩ := p.drop
        have er : rgV 0 n = ((List.range n.toNat).map fun (i : Nat) => (i : Int)).map V.int := by
          unfold rgV
          rw [List.map_map, Int.sub_zero]
          exact List.map_congr_left fun i _ => by simp
        have ed : ((List.range n.toNat).map fun (i : Nat) => D.int (i : Int)) = ((List.range n.toNat).map fun (i : Nat) => (i : Int)).map D.int := by rw [List.map_map]; rfl
        rw [ed] at k1
        obtain ⟨r4, k4, p4⟩ := newL_ok (s := true) (ds := ((List.range n.toNat).map fun (i : Nat) => (i : Int)).map D.int) p2 reps_of_ints (by simp) (show Aft (KL X.K) mg σ ev O S L H W (newL true _ ev1) _ by rw [x_newL, if_pos flats_int]; exact k1)
        obtain ⟨O5, S5, p5⟩ := p4 q hq
        rw [er]
        exact k4 _ _ _ _ p5
      · exact k1.elim
    · exact k1.elim
theorem e_ins (hv : PE X (.Name x p1) (tVar i)) (he : PE X e (tE (KL X.K) mg W f)) (he2 : PE X e2 (tE (KL X.K) mg W g))
    (hbase : attributeBase (.Name x p1) "insert" X.env (eval (.Name x p1) X.env) = eval (.Name x p1) X.env := by rfl)
    (hfew : ((backTo pos (starEach [e, e2] X.env)).all (fun x => !x.1) && (backToKw pos (keywordEach [] X.env)).all (fun x => x.1.isSome)
      && decide ([e, e2].length + ([] : List Keyword).length + (if ([] : List Keyword).isEmpty then 0 else 1) < 30)) = true := by rfl)
    (hline : (apos.endLine == pos.line) = true := by rfl) (hs : starEach [e, e2] X.env = (false, eval e X.env) :: starEach [e2] X.env := by rfl) (hs2 : starEach [e2] X.env = (false, eval e2 X.env) :: starEach [] X.env := by rfl) (hplain : (backTo pos (starEach [e2] X.env)).any (·.1) = false := by rfl) :
    PE X (.Call (.Attribute (.Name x p1) "insert" apos) [e, e2] [] pos) (tE (KL X.K) mg W (insE i f g)) :=
  pe_weak (pe_bm PySem.F.plainAttrs_list PySem.F.slot_list_insert PySem.F.type_list_insert mt_insert hv (pa_cons he (pa_cons he2 pa_nil hs2) hs) hbase hfew hline hs hplain) fun σ H Q => by
  rintro ⟨ev, O, S, L, ft, gd, k⟩
  unfold insE at k
  split at k
  · rename_i m ds e0
    obtain ⟨v0, own, e1, hent⟩ := slot_ent ft gd e0
    obtain ⟨f0, r0⟩ := hent.rep
    obtain ⟨a0, xs0, f1, rfl, rr0, q0⟩ := r0
    refine ⟨.ref a0, e1, .inl ⟨rfl, xs0, sq_of q0⟩, ev, O, S, L, ft, gd, aft_bind k fun r ev1 k1 v H1 O1 S1 p1 => ?_⟩
    unfold insK at k1
    split at k1
    · rename_i n hn
      obtain ⟨fp, rr⟩ := p1.rep1
      rw [hn] at rr
      cases rep_int rr
      obtain ⟨O2, q1⟩ := p1.drop
      refine ⟨ev1, O2, S1, L, q1.fit, q1.good, aft_next0 q1 (aft_bind k1 fun r2 ev2 z => z) fun r2 ev2 k2 v2 H2 O3 S2 p2 => ?_⟩
      unfold insK2 at k2
      split at k2
      · rename_i hb
        split at k2
        · rename_i ev3 e7
          have p2' := q1.trans0 p2
          obtain ⟨m', d0', e3⟩ : ∃ m' d0', ev2[i]? = some (some (m', d0')) := by
            unfold mutG at e7
            split at e7
            · rename_i d0 h; exact ⟨_, _, h⟩
            · rename_i d0 h; exact ⟨_, _, h⟩
            · cases e7
          obtain ⟨q, us, ds2, eq, ed, hq, hl, ⟨ds', hu⟩, O', S', p3⟩ := mut_ok (ks := []) ins_mut p2' e1 e3 rfl .nil e7
          have eq : a0 = q := by injection eq
          subst eq
          cases ed
          unfold insU at hu
          split at hu
          · rename_i hz
            refine ⟨_, us, n, v2, rfl, rfl, hq, by rw [hl]; exact hz, (insOk_iff.mp hb).1, by have := insOk_iff.mp hb; omega, ?_⟩
            obtain ⟨O4, p4⟩ := p3.flat (d := .non) (v := .non) (f := []) rfl ⟨rfl, rfl⟩
            exact k2 _ _ _ _ p4
          · cases hu
        · exact k2.elim
      · exact k2.elim
    · exact k1.elim
  · exact k.elim
/-- a list of shared flat things is all ours -/
theorem Good.ofRt {v : V} {ds : List D} (g : Good C H O S L ((v, (Md.rt, .lst ds)) :: es)) (fl : flats ds = true) : Good C H O S L ((v, (Md.dp, .lst ds)) :: es) := by
  obtain ⟨ol, ⟨o1, o2, rfl, ⟨a, f1, hv, ho, q, h⟩, h2⟩, nd, m⟩ := g.ex
  rcases h with ⟨ds', vs, e, hH, rs⟩ | ⟨ks, ds', kvs, e, _⟩
  · cases e
    have hv : v = .ref a := hv
    subst hv ho
    have rf : Reps RF H ds vs [] := by
      have : ∀ {ds : List D} {vs : List V} {f : List Addr}, flats ds = true → Reps C H ds vs f → Reps RF H ds vs [] := by
        intro ds
        induction ds with
        | nil => intro vs f _ r; exact ⟨r.1, rfl⟩
        | cons d ds ih =>
          intro vs f fl r
          obtain ⟨w, ws, g1, g2, rfl, rfl, r1, r2⟩ := r
          simp only [flats, Bool.and_eq_true] at fl
          exact ⟨w, ws, [], [], rfl, rfl, rep_flat_rf fl.1 r1, ih fl.2 r2⟩
      exact this fl rs
    exact ⟨⟨[a] ++ o2, ⟨[a], o2, rfl, ⟨⟨a, vs, [], rfl, rf, .inl ⟨.inl hH, rfl⟩⟩, fun b hb => by simp at hb; rw [hb]; exact .inl ⟨vs, hH⟩⟩, h2⟩, nd, m⟩, g.os, g.sl, g.lv, g.tab⟩
  · cases e
theorem Good.anyRt {v : V} {m : Md} {ds : List D} (hm : m = .dp ∨ m = .rt) (g : Good C H O S L ((v, (m, .lst ds)) :: es)) : ∃ O' S', Good C H O' S' L ((v, (Md.rt, .lst ds)) :: es) ∧ Go O S H O' S' H := by
  rcases hm with rfl | rfl
  · obtain ⟨O', S', g', a1, a2, a3⟩ := g.toRt
    exact ⟨O', S', g', fun _ _ h _ => .inl h, fun _ h => h, fun _ h => h, fun b h => .inl (a1 b h), a2, fun b h => (a3 b h).imp id .inl⟩
  · exact ⟨O, S, g, .refl⟩
theorem ext_ok {v v0 : V} {m mr : Md} {ds zs : List D} (p : Pst C L P σ ev O S H [(mr, .lst zs)] ev1 [v] τ O1 S1 H1) (hi : τ[i]? = some (some v0)) (he : ev1[i]? = some (some (m, .lst ds))) (hm : m = .dp ∨ m = .rt) (hr : mr = .dp ∨ mr = .rt) :
    ∃ q b us ws, v0 = .ref q ∧ v = .ref b ∧ H1 q = some (.lst us) ∧ H1 b = some (.lst ws) ∧ us.length = ds.length ∧ ws.length = zs.length ∧ ∃ O' S', Pst C L P σ ev O S H [] (ev1.set i (some (if flats (ds ++ zs) = true then .dp else .rt, .lst (ds ++ zs)))) [] τ O' S' (upd H1 q (.lst (us ++ ws))) := by
  obtain ⟨v0', e1, pp, f0⟩ := fit_get p.fit he
  rw [hi] at e1
  cases e1
  have ilt : i < ev1.length := (List.getElem?_eq_some_iff.mp he).1
  have G : Good C H1 O1 S1 L ((v, (mr, .lst zs)) :: (v0, (m, .lst ds)) :: ents (ev1.set i none) τ) := p.good.perm (pp.cons _)
  obtain ⟨Oa, Sa, Ga, goa⟩ := G.anyRt hr
  obtain ⟨b, ws, f1, Ob, hv, hb, rz, s1, Gb, ob, nb, mb⟩ := rt_root Ga
  obtain ⟨Oc, Sc, Gc, goc⟩ := Gb.anyRt hm
  obtain ⟨q, us, f2, Od, hq0, hq, rd, s2, Gd, oq, nq, mq⟩ := rt_root Gc
  subst hv hq0
  have rall : Reps C H1 (ds ++ zs) (us ++ ws) (f2 ++ f1) := rd.append rz
  obtain ⟨Ge, goe⟩ := Gc.rtSet hq rall fun c hc => by
    rcases List.mem_append.mp hc with hc | hc
    · exact s2 c hc
    · exact goc.monS c (s1 c hc)
  have go1 : Go O1 S1 H1 Ob Sa H1 := goa.less fun a h => (mb a).mpr (.inr h)
  refine ⟨q, b, us, ws, rfl, rfl, hq, hb, rd.length, rz.length, Oc, Sc, ?_⟩
  have fin : ∀ {md : MD}, Good C (upd H1 q (.lst (us ++ ws))) Oc Sc L ((.ref q, md) :: ents (ev1.set i none) τ) → md.1 ≠ .lk → Pst C L P σ ev O S H [] (ev1.set i (some md)) [] τ Oc Sc (upd H1 q (.lst (us ++ ws))) := fun {md} g nl => by
    obtain ⟨pq, fq⟩ := fit_put (md := md) p.fit ilt hi
    exact ⟨fq, p.lk.trans (LkS.put fun d z => by cases z; exact nl rfl), rfl, by simp, g.perm pq.symm, p.go.trans ((go1.trans goc).trans goe)⟩
  by_cases fl : flats (ds ++ zs) = true
  · rw [if_pos fl]
    exact fin (Ge.ofRt fl) (by simp)
  · rw [if_neg fl]
    exact fin Ge (by simp)
theorem e_ext (hv : PE X (.Name x p1) (tVar i)) (he : PE X e (tE (KL X.K) mg W f))
    (hbase : attributeBase (.Name x p1) "extend" X.env (eval (.Name x p1) X.env) = eval (.Name x p1) X.env := by rfl)
    (hfew : ((backTo pos (starEach [e] X.env)).all (fun x => !x.1) && (backToKw pos (keywordEach [] X.env)).all (fun x => x.1.isSome)
      && decide ([e].length + ([] : List Keyword).length + (if ([] : List Keyword).isEmpty then 0 else 1) < 30)) = true := by rfl)
    (hline : (apos.endLine == pos.line) = true := by rfl) (hs : starEach [e] X.env = (false, eval e X.env) :: starEach [] X.env := by rfl) (hplain : (backTo pos (starEach [] X.env)).any (·.1) = false := by rfl) :
    PE X (.Call (.Attribute (.Name x p1) "extend" apos) [e] [] pos) (tE (KL X.K) mg W (extE i f)) :=
  pe_weak (pe_bm PySem.F.plainAttrs_list PySem.F.slot_list_extend PySem.F.type_list_extend mt_extend hv (pa_cons he pa_nil hs) hbase hfew hline hs hplain) fun σ H Q => by
  rintro ⟨ev, O, S, L, ft, gd, k⟩
  unfold extE at k
  split at k
  · rename_i m ds e0
    obtain ⟨v0, own, e1, hent⟩ := slot_ent ft gd e0
    obtain ⟨f0, r0⟩ := hent.rep
    obtain ⟨a0, xs0, f1, rfl, rr0, q0⟩ := r0
    refine ⟨.ref a0, e1, .inl ⟨rfl, xs0, sq_of q0⟩, ev, O, S, L, ft, gd, aft_bind k fun r ev1 k1 v H1 O1 S1 p1 => ?_⟩
    unfold extK at k1
    split at k1
    · rename_i m2 ds2 mr zs e3
      split at k1
      · rename_i hc
        obtain ⟨q, b, us, ws, eq, rfl, hq, hb, l1, l2, O', S', p2⟩ := ext_ok p1 e1 e3 hc.1 hc.2.1
        have eq : a0 = q := by injection eq
        subst eq
        refine ⟨a0, b, us, ws, rfl, rfl, hq, hb, by rw [l1, l2]; exact hc.2.2, ?_⟩
        obtain ⟨O4, p4⟩ := p2.flat (d := .non) (v := .non) (f := []) rfl ⟨rfl, rfl⟩
        exact k1 _ _ _ _ p4
      · exact k1.elim
    · exact k1.elim
  · exact k.elim
/-! ### isinstance(x, (T1, T2)) -/
theorem kitAny_tys {d : D} (ne : isErr d = false) : ∀ {Ts : List String}, (∀ T ∈ Ts, T ∈ ["int", "bool", "list", "tuple", "str"]) → PySem.W.kitAny K (.type (tyN d)) (Ts.map Value.type) = some (Ts.any fun T => isT T d)
  | [], _ => kitAny_nil
  | T :: Ts, h => by
    have ih := kitAny_tys (d := d) ne (Ts := Ts) fun U hU => h U (List.mem_cons_of_mem _ hU)
    have hT := h T List.mem_cons_self
    have h1 : PySem.W.kitOne K (.type (tyN d)) (.type T) = some (isT T d) := by
      refine kit_ty ?_
      simp only [List.mem_cons, List.not_mem_nil, or_false] at hT
      rcases hT with rfl | rfl | rfl | rfl | rfl <;> cases d <;> first | (cases ne; done) | (dsimp only [tyN, isT]; decide +kernel)
    rw [List.map_cons, List.any_cons]
    refine kitAny_cons h1 (fun z => ?_) fun z => ?_
    · rw [ih, z]; rfl
    · rw [z]; rfl
theorem paired_tys : ∀ Ts : List String, Paired ClsV (Ts.map V.ty) (Ts.map Value.type)
  | [] => .nil
  | T :: Ts => .cons (.ty T) (paired_tys Ts)
theorem k_isiT {Ts : List String} (hT : ∀ T ∈ Ts, T ∈ ["int", "bool", "list", "tuple", "str"]) : KOk (KL K) (fun vs H Q => ∃ x, vs = [x] ∧ ∀ p, H p = none → rIsiT K [x, .ref p] (upd H p (.tup (Ts.map V.ty))) Q) (kF1 (gIsTs Ts)) := fun mg W σ ev O S L H as vs tvs trs ev2 O2 S2 H2 Q p ar af => by
  unfold kF1 at af
  split at af
  · rename_i s a
    obtain ⟨x, fp, rfl, rfl, rfl, r1, s1, _⟩ := argR_vals1 ar
    unfold gIsTs at af
    by_cases ne : isErr a = false
    case neg => rw [if_neg ne] at af; exact af.elim
    rw [if_pos ne] at af
    refine ⟨x, rfl, fun t ht => ?_⟩
    have p' := Pst.laid (o := .tup (Ts.map V.ty)) p ht
    have r1' : Rep (KL K) (upd H2 t (.tup (Ts.map V.ty))) a x fp := r1.kp (upd_kp ht (rep_live r1))
    refine ⟨x, t, Ts.map V.ty, _, Ts.map Value.type, Ts.any fun T => isT T a, rfl, upd_same, paired_tys Ts, rep_ty ne r1', kitAny_tys ne hT, ?_⟩
    obtain ⟨O4, p4⟩ := Pst.flat (d := .bl (Ts.any fun T => isT T a)) (v := .bl (Ts.any fun T => isT T a)) (f := []) p' rfl ⟨rfl, rfl⟩
    exact af _ _ O4 S2 p4
  · exact af.elim
variable {t1 : TE} {F1 : ∀ {α : Type}, Arp α → Arp α} {q1 q2 q3 p : Pos} {u1 u2 : Str}
theorem e_isi2 {T1 T2 : String} {k0 : Nat} (hT : ∀ T ∈ [T1, T2], T ∈ ["int", "bool", "list", "tuple", "str"]) (hg : Gl X "isinstance") (hm : X.mg "isinstance" = none) (hv : bootBuiltins "isinstance" = some (.builtin "isinstance")) (ha : PE X a t1) (w1 : OpdW (KL X.K) mg W t1 F1) (hb : PE X (.Name u1 q1) (tC (.ty T1))) (hb2 : PE X (.Name u2 q2) (tC (.ty T2)))
    (n1 : starEach [.Name u1 q1, .Name u2 q2] X.env = (false, eval (.Name u1 q1) X.env) :: starEach [.Name u2 q2] X.env := by rfl) (n2 : starEach [.Name u2 q2] X.env = (false, eval (.Name u2 q2) X.env) :: starEach [] X.env := by rfl)
    (he : starEach [a, .Tuple [.Name u1 q1, .Name u2 q2] k0 q3] X.env = (false, eval a X.env) :: starEach [.Tuple [.Name u1 q1, .Name u2 q2] k0 q3] X.env := by rfl) (he2 : starEach [.Tuple [.Name u1 q1, .Name u2 q2] k0 q3] X.env = (false, eval (.Tuple [.Name u1 q1, .Name u2 q2] k0 q3) X.env) :: starEach [] X.env := by rfl) (hpl : (backTo pos (starEach [.Tuple [.Name u1 q1, .Name u2 q2] k0 q3] X.env)).any (·.1) = false := by rfl) :
    PE X (.Call (.Name "isinstance" p) [a, .Tuple [.Name u1 q1, .Name u2 q2] k0 q3] [] pos) (tE (KL X.K) mg W (opA (kF1 (gIsTs [T1, T2])) (F1 aNil))) :=
  pe_weak (pe_callB call_isiT hg hm hv (pa_cons ha (pa_cons (pe_tup (pa_cons hb (pa_cons hb2 pa_nil n2) n1)) pa_nil he2) he) (by decide) (by decide) he hpl) fun σ H Q z => by
    have z := tcb_weak (k_isiT (K := X.K) hT) (aw_cons w1 aw_nil) σ H Q z
    refine cast ?_ z
    show t1 σ H (fun x H1 => ∃ x', [x] = [x'] ∧ ∀ p, H1 p = none → rIsiT X.K [x', .ref p] (upd H1 p (.tup ([T1, T2].map V.ty))) Q) = t1 σ H fun x H1 => ([V.ty T1, V.ty T2].length ≤ sizeLine ∧ ∀ p, H1 p = none → rIsiT X.K [x, .ref p] (upd H1 p (.tup [V.ty T1, V.ty T2])) Q)
    congr 1; funext x H1
    apply propext
    constructor
    · rintro ⟨x', e, q⟩; cases e; exact ⟨show (2 : Nat) ≤ sizeLine by decide, q⟩
    · exact fun q => ⟨x, rfl, q.2⟩
@[simp] theorem x_lrg1 {f : Ev → Rs MD} {ev : Ev} : lrg1 f ev = (f ev).bind lrgK := rfl
end
def rangeI (n : Int) : List Int := (List.range n.toNat).map fun (i : Nat) => (i : Int)
@[simp] theorem x_lrgK {m : Md} {n : Int} {ev : Ev} (h : 0 ≤ n) (h2 : n ≤ 1000000) : lrgK (m, .int n) ev = .ok (.dp, .lst ((rangeI n).map D.int)) ev := by
  unfold lrgK rangeI
  dsimp only
  rw [if_pos ⟨h, h2⟩, List.map_map]
  rfl
@[simp] theorem x_insE {i : Nat} {f g : Ev → Rs MD} {ev : Ev} : insE i f g ev = (match ev[i]? with
  | some (some (_, .lst _)) => (f ev).bind (insK i g)
  | _ => .no) := rfl
@[simp] theorem x_insK {i : Nat} {g : Ev → Rs MD} {m : Md} {n : Int} {ev : Ev} : insK i g (m, .int n) ev = (g ev).bind (insK2 i n) := rfl
@[simp] theorem x_insK2 {i : Nat} {n : Int} {r : MD} {ev2 : Ev} (h : 0 ≤ n) (h2 : n < 1000000) : insK2 i n r ev2 = (match mutG (insU n.toNat) i [] r ev2 with
  | some ev3 => .ok (.dp, .non) ev3
  | none => .no) := if_pos (insOk_iff.mpr ⟨h, h2⟩)
@[simp] theorem x_insU {n : Nat} {ds : List D} {d : D} (h : ds.length < 1000000) : insU n ds d = some (ds.take n ++ [d] ++ ds.drop n) := by simp only [insU, if_pos (Nat.lt_of_lt_of_le h (show 1000000 ≤ sizeLine by decide))]
@[simp] theorem x_extE {i : Nat} {f : Ev → Rs MD} {ev : Ev} : extE i f ev = (match ev[i]? with
  | some (some (_, .lst _)) => (f ev).bind (extK i)
  | _ => .no) := rfl
theorem ext_k {i : Nat} {m mr : Md} {ds zs : List D} {ev1 : Ev} (he : ev1[i]? = some (some (m, .lst ds))) (hm : m = .dp ∨ m = .rt) (hr : mr = .dp ∨ mr = .rt) (hl : ds.length + zs.length ≤ 1000000) :
    extK i (mr, .lst zs) ev1 = .ok (.dp, .non) (ev1.set i (some (if flats (ds ++ zs) = true then .dp else .rt, .lst (ds ++ zs)))) := by
  unfold extK
  rw [he]
  dsimp only
  rw [if_pos ⟨hm, hr, x_sz hl⟩]
@[simp] theorem x_gIsTs_non {Ts : List String} : gIsTs Ts .non = some (.bl (Ts.any fun T => isT T .non)) := rfl
@[simp] theorem x_gIsTs_bl {Ts : List String} {b : Bool} : gIsTs Ts (.bl b) = some (.bl (Ts.any fun T => isT T (.bl b))) := rfl
@[simp] theorem x_gIsTs_int {Ts : List String} {b : Int} : gIsTs Ts (.int b) = some (.bl (Ts.any fun T => isT T (.int b))) := rfl
@[simp] theorem x_gIsTs_str {Ts : List String} {b : Str} : gIsTs Ts (.str b) = some (.bl (Ts.any fun T => isT T (.str b))) := rfl
@[simp] theorem x_gIsTs_lst {Ts : List String} {b : List D} : gIsTs Ts (.lst b) = some (.bl (Ts.any fun T => isT T (.lst b))) := rfl
@[simp] theorem x_gIsTs_tup {Ts : List String} {b : List D} : gIsTs Ts (.tup b) = some (.bl (Ts.any fun T => isT T (.tup b))) := rfl
@[simp] theorem x_gIsTs_dct {Ts : List String} {k : List Key} {b : List D} : gIsTs Ts (.dct k b) = some (.bl (Ts.any fun T => isT T (.dct k b))) := rfl
end T6

namespace T6
open PySem PySem.Spec PyProof.Rows L2
variable [Tbl]
/-! ### for x in xs: x.append(c) -/
def app1 (c : D) : D → Option D
  | .lst es => if es.length < sizeLine then some (.lst (es ++ [c])) else none
  | _ => none
def appAll (c : D) : List D → Option (List D)
  | [] => some []
  | d :: ds => match app1 c d, appAll c ds with
    | some x, some xs => some (x :: xs)
    | _, _ => none
def forAppS (i t : Nat) (c : D) : Ev → Fl := fun ev => match ev[i]? with
  | some (some (.dp, .lst ds)) => if t < ev.length ∧ t ≠ i then match appAll c ds with
    | some ds' => .nx ((ev.set t none).set i (some (.dp, .lst ds')))
    | none => .no
    else .no
  | _ => .no
theorem appAll_get {c : D} : ∀ {ds ds' : List D}, appAll c ds = some ds' → ds'.length = ds.length ∧ ∀ (n : Nat) (d : D), ds[n]? = some d → ∃ es : List D, d = D.lst es ∧ es.length < sizeLine ∧ ds'[n]? = some (D.lst (es ++ [c]))
  | [], ds', h => by cases h; exact ⟨rfl, fun n d e => by simp at e⟩
  | x :: ds, ds', h => by
    unfold appAll at h
    split at h
    · rename_i y ys h1 h2
      cases h
      obtain ⟨l, k⟩ := appAll_get h2
      refine ⟨by simp [l], fun n d e => ?_⟩
      cases n with
      | zero =>
        simp at e
        subst e
        unfold app1 at h1
        split at h1
        · rename_i es
          split at h1
          · rename_i hz; cases h1; exact ⟨es, rfl, hz, rfl⟩
          · cases h1
        · cases h1
      | succ n => exact k n d (by simpa using e)
    · cases h
theorem modify_mid {α : Type} {f : α → α} : ∀ (a : List α) (y : α) (b : List α), (a ++ y :: b).modify a.length f = a ++ f y :: b
  | [], y, b => rfl
  | x :: a, y, b => by
    show x :: (a ++ y :: b).modify a.length f = _
    rw [modify_mid a y b]
    rfl
theorem take_step {α : Type} {f : α → α} {xs ys : List α} (hl : xs.length = ys.length) {n : Nat} (hn : n < ys.length) {z : α} (hz : xs[n]? = some z) (hf : ∀ y, f y = z) : (xs.take n ++ ys.drop n).modify n f = xs.take (n + 1) ++ ys.drop (n + 1) := by
  have h1 : (xs.take n).length = n := by rw [List.length_take]; omega
  have h2 := modify_mid (f := f) (xs.take n) ys[n] (ys.drop (n + 1))
  rw [h1] at h2
  rw [List.drop_eq_getElem_cons hn, h2, hf, List.take_add_one, hz]
  simp
section
variable {K : PySem.W.Frag} {C : Cs} {mg : Str → Option Value} {X : Cx} {W : WX} {a b e e2 : Expr} {H H' H1 H2 : Hp} {O O' O1 O2 S S' S1 S2 L : Ps} {P P' : Nat → Prop} {σ τ : L2.St} {ev ev1 ev2 : Ev} {pos apos p1 px cpos epos : Pos} {rs rs1 rs2 : List MD} {vs vs1 vs2 : List V} {es : List En} {x y : Str} {i t : Nat}
theorem fit_sv : ∀ {ev : Ev} {σ : L2.St} {i : Nat} {s : Option V}, Fit ev σ → (∀ md, ev[i]? ≠ some (some md)) → Fit ev (σ.set i s) ∧ ents ev (σ.set i s) = ents ev σ
  | [], [], i, _, _, _ => ⟨trivial, rfl⟩
  | none :: ev, s :: σ, 0, _, h, _ => ⟨h, rfl⟩
  | some md :: ev, some v :: σ, 0, _, h, n => absurd rfl (n md)
  | none :: ev, s :: σ, i + 1, s', h, n => by
    obtain ⟨a, b⟩ := fit_sv (ev := ev) (σ := σ) (i := i) (s := s') h (fun md z => n md (by simpa using z))
    exact ⟨a, b⟩
  | some md :: ev, some v :: σ, i + 1, s', h, n => by
    obtain ⟨a, b⟩ := fit_sv (ev := ev) (σ := σ) (i := i) (s := s') h (fun md z => n md (by simpa using z))
    exact ⟨a, by
      show (v, md) :: ents ev (σ.set i s') = (v, md) :: ents ev σ
      rw [b]⟩
  | [], _ :: _, _, _, h, _ => h.elim
  | none :: _, [], _, _, h, _ => h.elim
  | some _ :: _, [], _, _, h, _ => h.elim
  | some _ :: _, none :: _, _, _, h, _ => h.elim
theorem slot_entN {md : MD} (f : Fit ev σ) (g : Good C H O S L (ents ev σ)) (e : ev[i]? = some (some md)) : ∃ v own, σ[i]? = some (some v) ∧ Ent C H S L (v, md) own ∧ own.Nodup := by
  obtain ⟨v, e1, p, _⟩ := fit_get f e
  obtain ⟨ol, ⟨o1, o2, rfl, h, _⟩, nd, _⟩ := (g.perm p).ex
  exact ⟨v, o1, e1, h, (List.nodup_append.mp nd).1⟩
theorem Pst.forget (p : Pst C L P σ ev O S H [] ev1 [] τ O1 S1 H1) (t : Nat) : ∃ O', Pst C L P σ ev O S H [] (ev1.set t none) [] τ O' S1 H1 := by
  obtain ⟨q, pq, f0⟩ := ents_none (i := t) p.fit
  obtain ⟨O2, g2, le⟩ := Good.drop ((show Good C H1 O1 S1 L (ents ev1 τ) from p.good).perm pq)
  exact ⟨O2, f0, p.lk.trans (LkS.put fun d z => by cases z), rfl, by simp, g2, p.go.less le⟩
/-- a piece that gives a flat thing, whatever stands -/
def ConstE (K : PySem.W.Frag) (te : TE) (c : T6.D) : Prop := ∀ σ H Q, (∀ v H', (H' = H ∨ ∃ q o, H q = none ∧ H' = upd H q o) → Rep (KL K) H' c v [] → Q v H') → te σ H Q
theorem ce_int {n : Int} : ConstE K (tC (.int n)) (.int n) := fun σ H Q h => h _ H (.inl rfl) ⟨rfl, rfl⟩
theorem ce_pair {n m : Int} : ConstE K (tTup (tCons (tC (.int n)) (tCons (tC (.int m)) tNil))) (.tup [.int n, .int m]) := fun σ H Q h =>
  ⟨show (2 : Nat) ≤ sizeLine by decide, fun p hp => h _ _ (.inr ⟨p, _, hp, rfl⟩) ⟨p, _, rfl, .inl upd_same, ⟨_, _, [], [], rfl, rfl, ⟨rfl, rfl⟩, ⟨_, _, [], [], rfl, rfl, ⟨rfl, rfl⟩, ⟨rfl, rfl⟩⟩⟩⟩⟩
theorem s_forApp {c : T6.D} {te : TE} (hp : PassesOwn (model X.prog X.w) X.A X.env X.xe) (hc : X.calm = true) (hy : PE X (.Name y p1) (tVar i)) (hg : PG X (.Name x px) (gName t)) (hP : ¬ P t) (hv : PE X (.Name x epos) (tVar t)) (he : PE X e te) (hE : ConstE X.K te c) (fl : flat c = true)
    (hbase : attributeBase (.Name x epos) "append" X.env (eval (.Name x epos) X.env) = eval (.Name x epos) X.env := by rfl)
    (hfew : ((backTo cpos (starEach [e] X.env)).all (fun x => !x.1) && (backToKw cpos (keywordEach [] X.env)).all (fun x => x.1.isSome)
      && decide ([e].length + ([] : List Keyword).length + (if ([] : List Keyword).isEmpty then 0 else 1) < 30)) = true := by rfl)
    (hline : (apos.endLine == cpos.line) = true := by rfl) (hs : starEach [e] X.env = (false, eval e X.env) :: starEach [] X.env := by rfl) (hplain : (backTo cpos (starEach [] X.env)).any (·.1) = false := by rfl)
    {spos : Pos} (hsw : swapsWith (.Call (.Attribute (.Name x epos) "append" apos) [e] [] cpos) none spos.line X.env = pure false := by rfl)
    (hfs : ∀ z, foldedSetIterable (.Name y p1) X.env z = pure z := by intro _; rfl) :
    PS X (.For (.Name x px) (.Name y p1) [.Expr (.Call (.Attribute (.Name x epos) "append" apos) [e] [] cpos) spos] [] pos) (tS (KL X.K) mg P W (forAppS i t c)) :=
  ps_weak (ps_for hp hc (pi_seq hy) hg (pss_one (ps_expr (pe_bm PySem.F.plainAttrs_list PySem.F.slot_list_append PySem.F.type_list_append mt_append hv (pa_cons he pa_nil hs) hbase hfew hline hs hplain) hsw)) hfs) fun D σ H => by
  rintro ⟨ev, O, S, L, ft, gd, k⟩
  unfold forAppS at k
  split at k
  rotate_left
  · exact k.elim
  rename_i ds e0
  split at k
  rotate_left
  · exact k.elim
  rename_i hti
  split at k
  rotate_left
  · exact k.elim
  rename_i ds' ha
  obtain ⟨al, ag⟩ := appAll_get ha
  obtain ⟨v0, own, e1, ⟨r0, tk0⟩, nd0⟩ := slot_entN ft gd e0
  obtain ⟨a, us, f1, rfl, rr0, ⟨q0, rfl⟩ | ⟨q0, _⟩⟩ := r0
  rotate_left
  · exact q0.elim
  have hH := lst_rd q0 (tk0 a List.mem_cons_self)
  have ul : us.length = ds.length := rr0.length
  refine ⟨.ref a, e1, a, rfl, .inl ⟨us, .inl q0, ?_⟩⟩
  let Pv : Nat → L2.St → Hp → Prop := fun n τ H1 => ∃ evn O' S', Pst (KL X.K) L P σ ev O S H [] evn [] τ O' S' H1 ∧ evn[i]? = some (some (Md.dp, .lst (ds'.take n ++ ds.drop n))) ∧ evn.set i none = (ev.set t none).set i none ∧ H1 a = some (.lst us) ∧ τ[i]? = some (some (.ref a))
  obtain ⟨Oz, pz⟩ := (Pst.refl (P := P) ft gd).forget t
  refine ⟨fun n m τ H1 => m = ds.length - n ∧ n ≤ ds.length ∧ Pv n τ H1, ⟨ds.length, by simp, Nat.zero_le _, ev.set t none, Oz, S, pz, by rw [List.getElem?_set_ne hti.2]; simpa using e0, rfl, hH, e1⟩, ?_⟩
  rintro n m τ H1 ⟨rfl, hn, evn, O1, S1, p, ei, er, ha1, et⟩
  by_cases hlt : n < ds.length
  · refine .inr ⟨⟨us, us[n]'(by omega), .inl (.inl ha1), List.getElem?_eq_getElem (by omega)⟩, Pv (n + 1), fun τ' H' pv => ⟨ds.length - (n + 1), by omega, rfl, hlt, pv⟩, fun xv H2 yy => ?_⟩
    obtain ⟨rfl, hx⟩ := yy
    have hx := hx us (.inl (.inl ha1))
    obtain ⟨es, hes, hz, hd'⟩ := ag n _ (List.getElem?_eq_getElem hlt)
    have hdn : (ds'.take n ++ ds.drop n)[n]? = some (.lst es) := by
      rw [List.getElem?_append_right (by simp; omega), List.length_take, Nat.min_eq_left (by omega), Nat.sub_self, List.getElem?_drop, Nat.add_zero, List.getElem?_eq_getElem hlt, hes]
    -- the slot of the loop's name
    have nt : ∀ md, evn[t]? ≠ some (some md) := fun md z => by
      have z2 : (evn.set i none)[t]? = some (some md) := by rw [List.getElem?_set_ne (Ne.symm hti.2)]; exact z
      rw [er, List.getElem?_set_ne (Ne.symm hti.2)] at z2
      exact get_sn md z2
    obtain ⟨fs, ee⟩ := fit_sv (s := some xv) p.fit nt
    have p' : Pst (KL X.K) L P σ ev O S H [] evn [] (τ.set t (some xv)) O1 S1 H2 := ⟨fs, p.lk.trans (LkS.set (ev := evn) (i := t) (s := none) hP |> fun z => by
      rw [set_none nt] at z
      exact z), rfl, by simp, by
      show Good _ _ _ _ _ (ents evn (τ.set t (some xv)))
      rw [ee]; exact p.good, p.go⟩
    have eti : (τ.set t (some xv))[i]? = some (some (.ref a)) := by rw [List.getElem?_set_ne hti.2]; exact et
    have ett : (τ.set t (some xv))[t]? = some (some xv) := by
      have : t < τ.length := by
        rw [← p.fit.length]
        have := congrArg List.length er
        simp at this
        omega
      rw [List.getElem?_set_self this]
    obtain ⟨w0, own1, e2, ⟨r1, tk1⟩, nd1⟩ := slot_entN p'.fit p'.good ei
    rw [eti] at e2
    cases e2
    obtain ⟨a2, us2, f2, ea, rr1, ⟨q1, rfl⟩ | ⟨q1, _⟩⟩ := r1
    rotate_left
    · exact q1.elim
    cases ea
    have := lst_rd q1 (tk1 _ List.mem_cons_self)
    rw [ha1] at this
    cases this
    obtain ⟨w, fw, hw, rw1, sub⟩ := rr1.get hdn
    rw [hx] at hw
    cases hw
    obtain ⟨b, ws, g1, rfl, rrw, ⟨qw, rfl⟩ | ⟨qw, _⟩⟩ := rw1
    rotate_left
    · exact qw.elim
    have hba : b ≠ a := fun z => (List.nodup_cons.mp nd1).1 (by rw [← z]; exact sub b List.mem_cons_self)
    refine ⟨.ref b, ett, .inl ⟨rfl, ws, .inl qw⟩, hE _ _ _ fun v H3 h3 ok => ?_⟩
    have p3 : Pst (KL X.K) L P σ ev O S H [] evn [] (τ.set t (some (.ref b))) O1 S1 H3 := by
      rcases h3 with rfl | ⟨q, o, hq, rfl⟩
      · exact p'
      · exact Pst.laid p' hq
    have ha3 : H3 a = some (.lst us) := by
      rcases h3 with rfl | ⟨q, o, hq, rfl⟩
      · exact ha1
      · rw [upd_ne fun z => by rw [z, hq] at ha1; cases ha1]; exact ha1
    obtain ⟨O2, pc⟩ := p3.flat fl ok
    have hat : At H3 (.lst (ds'.take n ++ ds.drop n)) (.ref a) [n] (.lst es) (.ref b) := .lst ha3 hdn hx .nil
    have hg2 : getP [n] (.lst (ds'.take n ++ ds.drop n)) = some (.lst es) := by
      show ((ds'.take n ++ ds.drop n)[n]?).bind (getP []) = _
      rw [hdn]; rfl
    have mu : mutG appU i [n] (Md.dp, c) evn = some (evn.set i (some (.dp, putP [n] (.lst (ds'.take n ++ ds.drop n)) (.lst (es ++ [c]))))) := by
      unfold mutG
      rw [ei]
      dsimp only
      rw [hg2]
      dsimp only
      rw [show appU es c = some (es ++ [c]) from by unfold appU; rw [if_pos hz]]
      dsimp only
      rw [if_pos (.inl rfl)]
    obtain ⟨q, us3, ds3, eq, ed, hq, hl, _, O', S', p2⟩ := mut_ok (ks := [n]) app_mut pc eti ei hg2 hat mu
    have eq : b = q := by injection eq
    subst eq
    cases ed
    refine ⟨b, us3, v, rfl, rfl, hq, by rw [hl]; exact hz, ?_⟩
    refine ⟨_, O', S', p2, ?_, ?_, ?_, eti⟩
    · have il : i < evn.length := (List.getElem?_eq_some_iff.mp ei).1
      rw [List.getElem?_set_self il]
      congr 3
      show T6.D.lst ((ds'.take n ++ ds.drop n).modify n fun y => putP [] y (.lst (es ++ [c]))) = _
      congr 1
      exact take_step al hlt hd' fun y => rfl
    · rw [List.set_set, er]
    · rw [upd_ne hba.symm]; exact ha3
  · have e3 : n = ds.length := by omega
    subst e3
    refine .inl ⟨⟨us, .inl (.inl ha1), by omega⟩, ?_⟩
    have eev : evn = (ev.set t none).set i (some (Md.dp, .lst ds')) := by
      rw [List.drop_length, List.append_nil, ← al, List.take_length] at ei
      have il : i < evn.length := (List.getElem?_eq_some_iff.mp ei).1
      have h1 : (evn.set i none).set i (some (Md.dp, .lst ds')) = evn := by
        rw [List.set_set]
        obtain ⟨_, q⟩ := List.getElem?_eq_some_iff.mp ei
        rw [← q, List.set_getElem_self]
      rw [← h1, er, List.set_set]
    rw [eev] at p
    exact k τ O1 S1 H1 p
end
theorem x_forApp {i t : Nat} {c : D} {ds ds' : List D} {ev : Ev} (he : ev[i]? = some (some (.dp, .lst ds))) (ht : t < ev.length ∧ t ≠ i) (ha : appAll c ds = some ds') : forAppS i t c ev = .nx ((ev.set t none).set i (some (.dp, .lst ds'))) := by
  unfold forAppS
  rw [he]
  dsimp only
  rw [if_pos ht, ha]
theorem appAll_ints {c : Int} : ∀ (xs : List (List Int)), (∀ x ∈ xs, x.length < 1000000) → appAll (.int c) (xs.map lstI) = some ((xs.map fun x => x ++ [c]).map lstI)
  | [], _ => rfl
  | x :: xs, h => by
    have ih := appAll_ints (c := c) xs fun y hy => h y (List.mem_cons_of_mem _ hy)
    have hx := h x List.mem_cons_self
    show (match app1 (.int c) (lstI x), appAll (.int c) (xs.map lstI) with | some x, some xs => some (x :: xs) | _, _ => none) = _
    rw [ih]
    have : app1 (.int c) (lstI x) = some (lstI (x ++ [c])) := by
      show (if (x.map D.int).length < sizeLine then _ else _) = _
      rw [if_pos (size_lt (by simpa using hx))]
      simp [lstI]
    rw [this]
    rfl
end T6

namespace T6
open PySem PySem.Spec PyProof.Rows L2
variable [Tbl]
/-! ### a list taken apart -/
def unpLG (tgs : List Nat) (m : Md) (d : D) (ev : Ev) : Fl := match d with
  | .lst ds => if ds.length = tgs.length ∧ (∀ i ∈ tgs, i < ev.length) then .nx (asgn tgs (ds.map (childM m)) ev) else .no
  | _ => .no
def unpLK (tgs : List Nat) (r : MD) (ev1 : Ev) : Fl := unpLG tgs .sh r.2 ev1
def unpLM (tgs : List Nat) (f : Ev → Rs MD) : Ev → Fl := fun ev => bndS (f ev) (unpLK tgs)
/-! ### range(i, j, -1) -/
def rngD (lo : Int) (n : Nat) : List (List MD) := (List.range n).map fun (k : Nat) => [(Md.dp, D.int (lo - (k : Int)))]
noncomputable def kRng3 : List Ag → Ev → Rs (List (List MD)) := fun as ev => match as with
  | [.vl _ (.int i), .vl _ (.int j), .vl _ (.int c)] => if inLine i = true ∧ inLine j = true ∧ c = -1 then .ok (rngD i (i - j).toNat) ev else .no
  | _ => .no
section
variable {K : PySem.W.Frag} {C : Cs} {mg : Str → Option Value} {X : Cx} {W : WX} {a b c e e2 : Expr} {H H' H1 H2 : Hp} {O O' O1 O2 S S' S1 S2 L : Ps} {P P' : Nat → Prop} {σ τ : L2.St} {ev ev1 ev2 : Ev} {pos apos p1 px cpos epos : Pos} {rs rs1 rs2 : List MD} {vs vs1 vs2 : List V} {es : List En}
theorem s_unpLM {tgs : List Nat} {ts : List Expr} {k0 n : Nat} {tpos : Pos} {g : TGs} {f : Ev → Rs MD} (hc : X.calm = true) (he : PE X e (tE (KL X.K) mg W f)) (hg : PGs X ts g) (tk : TgsOk (KL X.K) P tgs g) (hl : tgs.length = n)
    (hn : (assignEach ts X.env).length = n := by rfl) (hst : (assignEach ts X.env).findIdx? (·.1) = none := by rfl)
    (hs : swapsWithSole [.Tuple ts k0 tpos] e pos.line X.env = pure false := by rfl) (hw : swappedStores [.Tuple ts k0 tpos] e X.env = pure none := by rfl)
    (h1 : (assignEach [.Tuple ts k0 tpos] X.env).map (·.2) = [assign (.Tuple ts k0 tpos) X.env] := by rfl) : PS X (.Assign [.Tuple ts k0 tpos] e pos) (tS (KL X.K) mg P W (unpLM tgs f)) := ps_weak (ps_asg he (pg_unl hc hg hn hst) hs hw h1) fun D σ H => by
  rintro ⟨ev, O, S, L, ft, gd, k⟩
  refine ⟨ev, O, S, L, ft, gd, aftS_bind k fun r ev1 k1 v H1 O1 S1 p => ?_⟩
  obtain ⟨O2, S2, fp, q, rr, ss, _⟩ := Pst.shareLast (rs1 := []) (vs1 := []) p rfl
  have k2 := aftS_next q.all k1
  unfold unpLK unpLG at k2
  split at k2
  · rename_i ds hd
    split at k2
    · rename_i hcc
      rw [hd] at rr
      obtain ⟨a, xs, f1, rfl, rx, sq⟩ := rr
      have sub : ∀ c ∈ f1, c ∈ fp := fun c h => by rcases sq with ⟨_, e⟩ | ⟨_, e⟩ <;> rw [e] <;> first | exact List.mem_cons_of_mem _ h | exact h
      refine ⟨a, xs, rfl, sq_of sq, by rw [rx.length, ← hl]; exact hcc.1, ?_⟩
      refine tk xs (ds.map (childM .sh)) σ ev1 O2 S2 L H1 _ q.fit q.good (by rw [rx.length, List.length_map]) (fun j y rr2 h1 h2 => ?_) (by rw [List.length_map]; exact hcc.1) hcc.2 fun τ' O' p => k2 τ' O' S2 H1 p
      rw [List.getElem?_map] at h2
      obtain ⟨d2, hd2, rfl⟩ := Option.map_eq_some_iff.mp h2
      obtain ⟨v2, f2, e1, r2, sb⟩ := rx.get hd2
      rw [h1] at e1
      cases e1
      exact child_lt (.inr rfl) r2 (fun a ha => .inr (ss a (sub a (sb a ha)))) fun _ a ha => ss a (sub a (sb a ha))
    · exact k2.elim
  · exact k2.elim
theorem src_rngD {lo : Int} {n : Nat} : SrcOk (KL K) K true L H S (Itc lo (-1) n) (rngD lo n) := by
  have il : (rngD lo n).length = n := by simp [rngD]
  refine ⟨fun i H' S' h rc => by rw [il] at h; exact h, fun H' S' rc => by rw [il]; exact Nat.le_refl n, fun i rs x H' S' H'' e rc y => ?_⟩
  obtain ⟨rfl, rfl⟩ := y
  refine ⟨.inl rfl, ?_⟩
  unfold rngD at e
  rw [List.getElem?_map] at e
  obtain ⟨k, hk, rfl⟩ := Option.map_eq_some_iff.mp e
  have : k = i := by
    obtain ⟨h1, h2⟩ := List.getElem?_eq_some_iff.mp hk
    simpa using h2.symm
  subst this
  have e2 : lo + (k : Int) * -1 = lo - (k : Int) := by omega
  rw [e2]
  exact ⟨_, rfl, [], ⟨rfl, rfl⟩, .inl ⟨rfl, rfl⟩⟩
theorem i_rng3 {A : Arp (List (List MD))} {tg : Expr} {p : Pos} (hg : Gl X "range") (hm : X.mg "range" = none) (ha : PA X [a, b, c] (tAC (KL X.K) mg W A)) (hs : starEach [a, b, c] X.env = (false, eval a X.env) :: starEach [b, c] X.env := by rfl) (hpl : (backTo pos (starEach [b, c] X.env)).any (·.1) = false := by rfl) :
    PI X tg (.Call (.Name "range" p) [a, b, c] [] pos) (tI (KL X.K) X.K mg W true (A kRng3)) := pi_weak (pi_range3 hg hm ha hs hpl) fun σ H R => by
  rintro ⟨ev, O, S, L, ft, gd, k⟩
  refine arg_start ft gd k fun as vs tvs trs ev2 O2 S2 H2 p ar af => ?_
  unfold kRng3 at af
  split at af
  · rename_i _ i _ j _ c
    split at af
    · rename_i hj
      cases ar with
      | vl r s t ar' =>
        cases ar' with
        | vl r' s' t' ar2 =>
          cases ar2 with
          | vl r3 s3 t3 ar3 =>
            cases ar3
            obtain ⟨h1, h2⟩ := line_of hj.1
            obtain ⟨h3, h4⟩ := line_of hj.2.1
            rw [rp_int r, rp_int r', rp_int r3]
            rw [hj.2.2]
            exact ⟨i, j, -1, _, rfl, RgC.neg h1 h2 h3 h4, af _ H2 O2 S2 p src_rngD⟩
    · exact af.elim
  · exact af.elim
end
@[simp] theorem x_unpLM {tgs : List Nat} {f : Ev → Rs MD} {ev : Ev} : unpLM tgs f ev = bndS (f ev) (unpLK tgs) := rfl
@[simp] theorem x_unpLK {tgs : List Nat} {m : Md} {ds : List D} {ev : Ev} : unpLK tgs (m, .lst ds) ev = if ds.length = tgs.length ∧ (∀ i ∈ tgs, i < ev.length) then .nx (asgn tgs (ds.map (childM .sh)) ev) else .no := rfl
@[simp] theorem x_rng3 {s t u : Bool} {i j : Int} {ev : Ev} (h : inLine i = true) (h2 : inLine j = true) : kRng3 [.vl s (.int i), .vl t (.int j), .vl u (.int (-1))] ev = .ok (rngD i (i - j).toNat) ev := by simp [kRng3, h, h2]
theorem rngD_get {lo : Int} {n i : Nat} {x : List MD} (h : (rngD lo n)[i]? = some x) : i < n ∧ x = [(Md.dp, D.int (lo - i))] := by
  unfold rngD at h
  rw [List.getElem?_map] at h
  obtain ⟨k, hk, rfl⟩ := Option.map_eq_some_iff.mp h
  obtain ⟨h1, h2⟩ := List.getElem?_eq_some_iff.mp hk
  simp at h1 h2
  subst h2
  exact ⟨h1, rfl⟩
theorem rngD_len {lo : Int} {n : Nat} : (rngD lo n).length = n := by simp [rngD]
end T6

namespace T6
open PySem PySem.Spec PyProof.Rows L2
variable [Tbl]
/-! ### x.pop(0), range(0, j, c) -/
def tlU (ds : List D) (_ : D) : Option (List D) := match ds with
  | [] => none
  | _ :: ds => some ds
def pop0E (i : Nat) : Ev → Rs MD := fun ev => match ev[i]? with
  | some (some (m, .lst (d :: ds))) => if (m = .dp ∨ m = .rt) ∧ flat d = true then .ok (.dp, d) (ev.set i (some (m, .lst ds))) else .no
  | _ => .no
def rngP (c : Int) (n : Nat) : List (List MD) := (List.range n).map fun (k : Nat) => [(Md.dp, D.int ((k : Int) * c))]
def stepsN (j c : Int) : Nat := ((j + c - 1) / c).toNat
noncomputable def kRng3p (c : Int) : List Ag → Ev → Rs (List (List MD)) := fun as ev => match as with
  | [.vl _ (.int i), .vl _ (.int j), .vl _ (.int c')] => if i = 0 ∧ 0 ≤ j ∧ j ≤ 1000000 ∧ c' = c ∧ 1 ≤ c ∧ c ≤ 1000 then .ok (rngP c (stepsN j c)) ev else .no
  | _ => .no
section
variable {K : PySem.W.Frag} {C : Cs} {mg : Str → Option Value} {X : Cx} {W : WX} {a b c e e2 : Expr} {H H' H1 H2 : Hp} {O O' O1 O2 S S' S1 S2 L : Ps} {P P' : Nat → Prop} {σ τ : L2.St} {ev ev1 ev2 : Ev} {pos apos p1 px cpos epos : Pos} {rs rs1 rs2 : List MD} {vs vs1 vs2 : List V} {es : List En} {x : Str} {i : Nat}
theorem tl_mut : MutOk tlU (fun us _ => us.eraseIdx 0) := fun ds vs d v ds' hl h C H f1 fo r1 r2 => by
  unfold tlU at h
  split at h
  · cases h
  · rename_i d0 ds0
    cases h
    obtain ⟨w, ws, g1, g2, rfl, rfl, q1, q2⟩ := r1
    refine ⟨g2, q2, fun a ha => List.mem_append_left _ (List.mem_append_right _ ha), fun nd => ?_⟩
    exact (List.nodup_append.mp (List.nodup_append.mp nd).1).2.1
theorem e_pop0 (hv : PE X (.Name x p1) (tVar i)) (he : PE X e (tC (.int 0)))
    (hbase : attributeBase (.Name x p1) "pop" X.env (eval (.Name x p1) X.env) = eval (.Name x p1) X.env := by rfl)
    (hfew : ((backTo pos (starEach [e] X.env)).all (fun x => !x.1) && (backToKw pos (keywordEach [] X.env)).all (fun x => x.1.isSome)
      && decide ([e].length + ([] : List Keyword).length + (if ([] : List Keyword).isEmpty then 0 else 1) < 30)) = true := by rfl)
    (hline : (apos.endLine == pos.line) = true := by rfl) (hs : starEach [e] X.env = (false, eval e X.env) :: starEach [] X.env := by rfl) (hplain : (backTo pos (starEach [] X.env)).any (·.1) = false := by rfl) :
    PE X (.Call (.Attribute (.Name x p1) "pop" apos) [e] [] pos) (tE (KL X.K) mg W (pop0E i)) :=
  pe_weak (pe_bm PySem.F.plainAttrs_list PySem.F.slot_list_pop PySem.F.type_list_pop mt_popAt hv (pa_cons he pa_nil hs) hbase hfew hline hs hplain) fun σ H Q => by
  rintro ⟨ev, O, S, L, ft, gd, k⟩
  unfold pop0E at k
  split at k
  · rename_i m d ds e0
    split at k
    · rename_i hc
      obtain ⟨v0, own, e1, hent⟩ := slot_ent ft gd e0
      have key : ∃ a0 y ys fy, v0 = .ref a0 ∧ H a0 = some (.lst (y :: ys)) ∧ Rep (KL X.K) H d y fy := by
        rcases hc.1 with rfl | rfl
        · obtain ⟨⟨a2, vs2, f2, e2, rr, (⟨h2, hf⟩ | ⟨h2, _⟩)⟩, tk⟩ := hent
          · obtain ⟨y, ys, g1, g2, rfl, rfl, ry, rys⟩ := rr
            have hf : own = a2 :: (g1 ++ g2) := hf
            subst hf
            exact ⟨a2, y, ys, g1, e2, lst_rd h2 (tk a2 List.mem_cons_self), ry.mono⟩
          · exact h2.elim
        · obtain ⟨a2, f1, e2, _, _, h⟩ := hent
          rcases h with ⟨ds', vs, e3, hH, rr⟩ | ⟨_, _, _, e3, _⟩
          · cases e3
            obtain ⟨y, ys, g1, g2, rfl, rfl, ry, rys⟩ := rr
            exact ⟨a2, y, ys, g1, e2, hH, ry⟩
          · cases e3
      obtain ⟨a0, y, ys, fy, rfl, hq0, ry⟩ := key
      obtain ⟨O2, p1⟩ := (Pst.refl (P := fun _ => True) ft gd).flat (d := .non) (v := .non) (f := []) rfl ⟨rfl, rfl⟩
      have e7 : mutG tlU i [] (Md.dp, D.non) ev = some (ev.set i (some (m, .lst ds))) := by
        unfold mutG
        rw [e0]
        rcases hc.1 with rfl | rfl
        · simp [tlU]
        · simp [tlU]
      obtain ⟨q, us, ds2, eq, ed, hq, hl, ⟨ds', hu⟩, O', S', p2⟩ := mut_ok (ks := []) tl_mut p1 e1 e0 rfl .nil e7
      have eq : a0 = q := by injection eq
      subst eq
      cases ed
      rw [hq0] at hq
      cases hq
      refine ⟨.ref a0, e1, .inl ⟨rfl, y :: ys, sq_of (fp := [a0]) (f1 := []) (.inl ⟨.inl hq0, rfl⟩)⟩, a0, y :: ys, 0, 0, y, rfl, rfl, hq0, by decide, by decide, ?_, rfl, ?_⟩
      · show seqIndex? 0 (ys.length + 1) = some 0
        simp [seqIndex?]
      · obtain ⟨O4, p4⟩ := p2.flat hc.2 ((rep_flat0 hc.2 ry).kp (kp_upd (by simp) (.inl ⟨_, hq0⟩)))
        exact k _ _ _ _ p4
    · exact k.elim
  · exact k.elim
theorem small_p {j c : Int} (h0 : 0 ≤ j) (h1 : j ≤ 1000000) (c0 : 1 ≤ c) (c1 : c ≤ 1000) : Builtin.Range.small 0 j c = true := by
  have hn : Builtin.Range.rangeSize 0 j c = (j + c - 1) / c := rangeSize_pos c0 h0
  have b1 : 0 ≤ (j + c - 1) / c := Int.ediv_nonneg (by omega) (by omega)
  have b2 : (j + c - 1) / c ≤ j + c - 1 := Int.ediv_le_self _ (by omega)
  unfold Builtin.Range.small
  rw [hn]
  simp only [Builtin.Range.rangeFitsLong, Bool.and_eq_true, Bool.or_eq_true, decide_eq_true_eq, beq_iff_eq, show c > 0 by omega, if_true]
  omega
theorem src_rngP {c : Int} {n : Nat} : SrcOk (KL K) K true L H S (Itc 0 c n) (rngP c n) := by
  have il : (rngP c n).length = n := by simp [rngP]
  refine ⟨fun i H' S' h rc => by rw [il] at h; exact h, fun H' S' rc => by rw [il]; exact Nat.le_refl n, fun i rs x H' S' H'' e rc y => ?_⟩
  obtain ⟨rfl, rfl⟩ := y
  refine ⟨.inl rfl, ?_⟩
  unfold rngP at e
  rw [List.getElem?_map] at e
  obtain ⟨k, hk, rfl⟩ := Option.map_eq_some_iff.mp e
  have : k = i := by
    obtain ⟨h1, h2⟩ := List.getElem?_eq_some_iff.mp hk
    simpa using h2.symm
  subst this
  rw [Int.zero_add]
  exact ⟨_, rfl, [], ⟨rfl, rfl⟩, .inl ⟨rfl, rfl⟩⟩
theorem i_rng3p {A : Arp (List (List MD))} {tg : Expr} {p : Pos} {n : Int} (hg : Gl X "range") (hm : X.mg "range" = none) (ha : PA X [a, b, c] (tAC (KL X.K) mg W A)) (hs : starEach [a, b, c] X.env = (false, eval a X.env) :: starEach [b, c] X.env := by rfl) (hpl : (backTo pos (starEach [b, c] X.env)).any (·.1) = false := by rfl) :
    PI X tg (.Call (.Name "range" p) [a, b, c] [] pos) (tI (KL X.K) X.K mg W true (A (kRng3p n))) := pi_weak (pi_range3 hg hm ha hs hpl) fun σ H R => by
  rintro ⟨ev, O, S, L, ft, gd, k⟩
  refine arg_start ft gd k fun as vs tvs trs ev2 O2 S2 H2 p ar af => ?_
  unfold kRng3p at af
  split at af
  · rename_i _ i _ j _ c
    split at af
    · rename_i hj
      cases ar with
      | vl r s t ar' =>
        cases ar' with
        | vl r' s' t' ar2 =>
          cases ar2 with
          | vl r3 s3 t3 ar3 =>
            cases ar3
            obtain ⟨h0, h1, h2, h3, h4, h5⟩ := hj
            rw [rp_int r, rp_int r', rp_int r3, h0, h3]
            refine ⟨0, j, n, _, rfl, ⟨by omega, by omega, small_p h1 h2 h4 h5, ?_⟩, af _ H2 O2 S2 p src_rngP⟩
            rw [rangeSize_pos h4 h1]
            unfold stepsN
            have : 0 ≤ (j + n - 1) / n := Int.ediv_nonneg (by omega) (by omega)
            omega
    · exact af.elim
  · exact af.elim
end
@[simp] theorem x_pop0 {i : Nat} {ev : Ev} : pop0E i ev = (match ev[i]? with
  | some (some (m, .lst (d :: ds))) => if (m = .dp ∨ m = .rt) ∧ flat d = true then .ok (.dp, d) (ev.set i (some (m, .lst ds))) else .no
  | _ => .no) := rfl
@[simp] theorem x_rng3p {s t u : Bool} {j c : Int} {ev : Ev} (h1 : 0 ≤ j) (h2 : j ≤ 1000000) (h4 : 1 ≤ c) (h5 : c ≤ 1000) : kRng3p c [.vl s (.int 0), .vl t (.int j), .vl u (.int c)] ev = .ok (rngP c (stepsN j c)) ev := by simp [kRng3p, h1, h2, h4, h5]
theorem rngP_get {c : Int} {n i : Nat} {x : List MD} (h : (rngP c n)[i]? = some x) : i < n ∧ x = [(Md.dp, D.int (i * c))] := by
  unfold rngP at h
  rw [List.getElem?_map] at h
  obtain ⟨k, hk, rfl⟩ := Option.map_eq_some_iff.mp h
  obtain ⟨h1, h2⟩ := List.getElem?_eq_some_iff.mp hk
  simp at h1 h2
  subst h2
  exact ⟨h1, rfl⟩
theorem rngP_len {c : Int} {n : Nat} : (rngP c n).length = n := by simp [rngP]
end T6

namespace T6
open PySem PySem.Spec PyProof.Rows L2
variable [Tbl]
/-! ### a list that is looked at, not kept -/
def aLstL {α : Type} (B : Arp α) (A : Arp α) : Arp α := fun k ev => B (fun as ev1 => match valsA as with
  | some (s, ds) => if ds.length ≤ sizeLine then A (fun as' => k (.vl s (.lst ds) :: as')) ev1 else .no
  | none => .no) ev
section
variable {K : PySem.W.Frag} {C : Cs} {mg : Str → Option Value} {X : Cx} {W : WX} {H H' H1 H2 : Hp} {O O' O1 O2 S S' S1 S2 L : Ps} {P P' : Nat → Prop} {σ τ : L2.St} {ev ev1 ev2 : Ev} {rs rs1 rs2 : List MD} {vs vs1 vs2 : List V} {es : List En}
theorem Go.laidS {p : Addr} {o : HO} (hp : H p = none) : Go O S H O (fun a => S a ∨ a = p) (upd H p o) :=
  ⟨(Go.laid (O := O) (S := S) hp).keep, (Go.laid (O := O) (S := S) hp).code, (Go.laid (O := O) (S := S) hp).live, fun a h => .inl h, fun a h => .inl h, fun a h => h.elim .inl fun e => .inr (.inr (by rw [e]; exact hp))⟩
theorem Good.laidS {p : Addr} {o : HO} (g : Good C H O S L es) (hp : H p = none) : Good C (upd H p o) O (fun a => S a ∨ a = p) L es := by
  have g1 := g.laid (o := o) hp
  obtain ⟨ol, e, nd, m⟩ := g1.ex
  refine ⟨⟨ol, e.smono fun a h => .inl h, nd, m⟩, fun a h => ⟨fun z => z.elim (g1.os a h).1 fun e => (g.trk a h).ne (by rw [e]; exact hp), (g1.os a h).2⟩, fun a h z => h.elim (fun h => g1.sl a h z) fun e => g.lv a (.inr z) (by rw [e]; exact hp), fun a h => ?_, g1.tab⟩
  rcases h with (h | h) | h
  · exact g1.lv a (.inl h)
  · rw [h, upd_same]; simp
  · exact g1.lv a (.inr h)
theorem ow_lstL {ts : TA} {B : ∀ {α : Type}, Arp α} (h : ArgsW C mg W ts B) : OpdW C mg W (tLst ts) (fun A => aLstL B A) := fun α A tr w σ H Q => by
  rintro ⟨k, R, ev0, O0, S0, H0, L, rs0, vs0, ev1, O1, S1, p, af, fin⟩
  refine h α σ H _ ⟨fun as ev1 => match valsA as with
  | some (s, ds) => if ds.length ≤ sizeLine then A (fun as' => k (.vl s (.lst ds) :: as')) ev1 else .no
  | none => .no, R, ev0, O0, S0, H0, L, rs0, vs0, ev1, O1, S1, p, af, fun as vs tvs trs ev2 O2 S2 H2 p2 kp ar af2 => ?_⟩
  dsimp only at af2
  split at af2
  · rename_i s ds hv
    split at af2
    · rename_i hz
      obtain ⟨fp, rfl, rfl, rr, sr, tr⟩ := vals_ok hv ar
      rw [List.append_nil, List.append_nil] at p2
      refine ⟨by rw [rr.length]; exact hz, fun q hq => ?_⟩
      have gO : ∃ OE, Good C H2 OE S2 L (ents ev2 σ) := by obtain ⟨OE, g1, _⟩ := p2.next; exact ⟨OE, g1⟩
      obtain ⟨OE, gE⟩ := gO
      have kq : Kpt C L H2 S2 (upd H2 q (.lst vs)) (fun a => S2 a ∨ a = q) := (Go.laidS (O := OE) hq).kpt gE
      have rT : Rep C (upd H2 q (.lst vs)) (.lst ds) (.ref q) (q :: fp) := ⟨q, vs, fp, rfl, rr.kp (upd_kp hq (reps_live rr)), .inl ⟨.inl upd_same, rfl⟩⟩
      have sr2 : ∀ a ∈ q :: fp, L a ∨ (S2 a ∨ a = q) := fun a ha => (List.mem_cons.mp ha).elim (fun e => .inr (.inr e)) fun ha => (sr a ha).imp id .inl
      have pl : Pst C L (fun _ => True) σ ev0 O0 S0 H0 rs0 ev2 vs0 σ O2 (fun a => S2 a ∨ a = q) (upd H2 q (.lst vs)) := ⟨p2.fit, p2.lk, p2.len, p2.nl, p2.good.laidS hq, p2.go.trans (Go.laidS hq)⟩
      refine w σ _ _ ⟨fun as' => k (.vl s (.lst ds) :: as'), R, ev0, O0, S0, H0, L, rs0, vs0, ev2, O2, _, pl, af2, fun as' vs' tvs trs ev3 O4 S4 H4 p4 kp4 ar4 af4 => ?_⟩
      obtain ⟨r6, s6⟩ := kp4.1 _ _ _ rT sr2
      exact fin (.vl s (.lst ds) :: as') (.ref q :: vs') tvs trs ev3 O4 S4 H4 p4 ((kp.trans kq).trans kp4) (.vl r6 s6 (fun z a ha => (List.mem_cons.mp ha).elim (fun e => kp4.2 a (.inr e)) fun ha => kp4.2 a (.inl (tr z a ha))) ar4) af4
    · exact af2.elim
  · exact af2.elim
end
def lstAK {α : Type} (A : Arp α) (k : List Ag → Ev → Rs α) (as : List Ag) (ev1 : Ev) : Rs α := match valsA as with
  | some (s, ds) => if ds.length ≤ sizeLine then A (pushK (.vl s (.lst ds)) k) ev1 else .no
  | none => .no
@[simp] theorem x_lstAK {α : Type} {A : Arp α} {k : List Ag → Ev → Rs α} {as : List Ag} {ev1 : Ev} : lstAK A k as ev1 = (match valsA as with
  | some (s, ds) => if ds.length ≤ sizeLine then A (pushK (.vl s (.lst ds)) k) ev1 else .no
  | none => .no) := rfl
@[simp] theorem x_aLstL {α : Type} {B A : Arp α} {k : List Ag → Ev → Rs α} {ev : Ev} : aLstL B A k ev = B (lstAK A k) ev := rfl
end T6

namespace T6
open PySem PySem.Spec PyProof.Rows L2
variable [Tbl]
/-! ### sorted of lists of things that are alike -/
open PySem.W (AllAlike Sortable dataLe EachIs alike alikeAll) in
def rSortedD (K : PySem.W.Frag) : List V → Hp → VK → Prop := fun vs H Q => ∃ (a : Addr) (xs : List V) (ds : List PyData), vs = [V.ref a] ∧ SqL K H a xs ∧ DpAll K H xs ds ∧ PySem.W.AllAlike ds ∧ PySem.W.Sortable ds ∧ (∀ d ∈ ds, d.depth ≤ 60) ∧
  ∀ p, H p = none → Q (.ref p) (upd H p (.lst (((xs.zip ds).mergeSort (PySem.W.dataLe false Prod.snd)).map Prod.fst)))
section
variable {X : Cx} {K : PySem.W.Frag} {C : Cs} {H : Hp}
theorem each_zip {h : Heap} : ∀ {xs : List V} {us : List Value} {ds : List PyData} {as : List Addr}, Vals xs us → ReadsAll h us ds as →
    PySem.W.EachIs (fun v (b : V × PyData) => RelV b.1 v) us (xs.zip ds) ∧ PySem.W.EachIs (fun v (b : V × PyData) => ∃ as, Reads h v b.2 as) us (xs.zip ds) ∧ (xs.zip ds).map Prod.snd = ds ∧ (xs.zip ds).length = xs.length
  | _, _, _, _, .nil, .nil => ⟨.nil, .nil, rfl, rfl⟩
  | _, _, _, _, .cons r t, .cons r2 t2 => by
    obtain ⟨h1, h2, h3, h4⟩ := each_zip t t2
    exact ⟨.cons r h1, .cons ⟨_, r2⟩ h2, by simp [h3], by simp [h4]⟩
theorem each_vals : ∀ {us : List Value} {bs : List (V × PyData)}, PySem.W.EachIs (fun v (b : V × PyData) => RelV b.1 v) us bs → Vals (bs.map Prod.fst) us
  | _, _, .nil => .nil
  | _, _, .cons r t => .cons r (each_vals t)
theorem cr_sortedD (hu : X.A.units + 65 < cLine) : CallR X (.builtin "sorted") (rSortedD X.K) := by
  intro pins s σ H vs us Q I r h
  obtain ⟨a, xs, ds, rfl, hs, hd, ha, hk, hb, q⟩ := h
  obtain ⟨its, rv, hl, hz⟩ := I.list hs
  rw [Vals.ref1 r]
  obtain ⟨as, ra⟩ := Dp.readsAll I ds xs its hd rv
  obtain ⟨h1, h2, h3, h4⟩ := each_zip rv ra
  refine PySem.W.sorted_data (enc := Prod.snd) hl.isList h1 h2 (by rw [h3]; exact ha) (by rw [h3]; exact hk) (by rw [h4]; exact hz) (fun b hbb => ?_) fun out l1 l2 => ?_
  · have := hb b.2 (by rw [← h3]; exact List.mem_map.mpr ⟨b, hbb, rfl⟩)
    omega
  · obtain ⟨ep, he'⟩ := PyProof.Rows.sortedAll_at s.heap its out.toArray
    have hv := each_vals l2
    have hlen : (((xs.zip ds).mergeSort (PySem.W.dataLe false Prod.snd)).map Prod.fst).length ≤ sizeLine := by
      rw [List.length_map, List.length_mergeSort, h4]
      exact hz
    exact ⟨.ref _, upd H (s.heap.objs.size + 1) (.lst (((xs.zip ds).mergeSort (PySem.W.dataLe false Prod.snd)).map Prod.fst)), I.laid (t' := s.toks) (fun _ _ => PyProof.Rows.sortedAll_old) (Nat.le_succ _) ⟨hlen, out, ep, hv, he'⟩, rfl, q _ (I.hok.fresh (Nat.le_succ _))⟩
end
/-- the order of things -/
noncomputable def leD (a b : D) : Bool := PySem.W.dataLe false toPy a b
open Classical in
noncomputable def gSortD : D → Option (List D)
  | .lst es => if PyData.canLayAll0 (toPys es) = true ∧ PySem.W.AllAlike (toPys es) ∧ PySem.W.Sortable (toPys es) ∧ (∀ d ∈ toPys es, d.depth ≤ 60) then some (es.mergeSort leD) else none
  | _ => none
section
variable {C : Cs} {K : PySem.W.Frag} {H : Hp}
theorem reps_pairs {f : List Addr} : ∀ (ps : List (V × D)), (∀ p ∈ ps, ∃ fp, Rep C H p.2 p.1 fp ∧ ∀ a ∈ fp, a ∈ f) → ∃ fq, Reps C H (ps.map Prod.snd) (ps.map Prod.fst) fq ∧ ∀ a ∈ fq, a ∈ f
  | [], _ => ⟨[], ⟨rfl, rfl⟩, by simp⟩
  | p :: ps, h => by
    obtain ⟨f1, r1, s1⟩ := h p List.mem_cons_self
    obtain ⟨f2, r2, s2⟩ := reps_pairs ps fun q hq => h q (List.mem_cons_of_mem _ hq)
    exact ⟨f1 ++ f2, ⟨p.1, ps.map Prod.fst, f1, f2, rfl, rfl, r1, r2⟩, fun a ha => (List.mem_append.mp ha).elim (s1 a) (s2 a)⟩
theorem reps_zip : ∀ {ds : List D} {xs : List V} {f : List Addr}, Reps C H ds xs f → (∀ p ∈ xs.zip ds, ∃ fp, Rep C H p.2 p.1 fp ∧ ∀ a ∈ fp, a ∈ f) ∧ (xs.zip ds).map Prod.snd = ds
  | [], xs, f, r => by
    obtain ⟨rfl, rfl⟩ : xs = [] ∧ f = [] := r
    exact ⟨by simp, rfl⟩
  | d :: ds, xs, f, r => by
    obtain ⟨v, vs, f1, f2, rfl, rfl, r1, r2⟩ := r
    obtain ⟨h1, h2⟩ := reps_zip r2
    refine ⟨fun p hp => ?_, by simp [h2]⟩
    rcases List.mem_cons.mp (show p ∈ (v, d) :: vs.zip ds from hp) with rfl | hp
    · exact ⟨f1, r1, fun a ha => List.mem_append_left _ ha⟩
    · obtain ⟨fp, a1, a2⟩ := h1 p hp
      exact ⟨fp, a1, fun a ha => List.mem_append_right _ (a2 a ha)⟩
theorem prn_sortD : PrN1 (KL K) (rSortedD K) gSortD := fun H x d f ds Q r h q => by
  cases d with
  | lst es =>
    unfold gSortD at h
    dsimp only at h
    split at h
    · rename_i hc
      obtain ⟨c1, c2, c3, c4⟩ := hc
      cases h
      obtain ⟨a, xs, f1, rfl, rr, sq⟩ := r
      refine ⟨a, xs, toPys es, rfl, sq_of sq, reps_dp c1 rr, c2, c3, c4, fun p hp => ?_⟩
      obtain ⟨z1, z2⟩ := reps_zip rr
      have e1 : xs.zip (toPys es) = (xs.zip es).map (fun p => (p.1, toPy p.2)) := by
        rw [toPys_map, List.zip_map_right]
        rfl
      have e2 : ((xs.zip es).mergeSort (fun p q => leD p.2 q.2)).map (fun p => (p.1, toPy p.2)) = ((xs.zip es).map (fun p => (p.1, toPy p.2))).mergeSort (PySem.W.dataLe false Prod.snd) :=
        List.map_mergeSort fun _ _ _ _ => rfl
      have e3 : ((xs.zip es).mergeSort (fun p q => leD p.2 q.2)).map Prod.snd = ((xs.zip es).map Prod.snd).mergeSort leD := List.map_mergeSort fun _ _ _ _ => rfl
      obtain ⟨fq, r1, r2⟩ := reps_pairs ((xs.zip es).mergeSort (fun p q => leD p.2 q.2)) (fun p hp => z1 p ((List.mergeSort_perm _ _).mem_iff.mp hp))
      rw [e1, ← e2, List.map_map]
      rw [e3, z2] at r1
      refine q _ fq r1 (fun b hb => ?_) p hp
      have hb := r2 b hb
      rcases sq with ⟨_, e⟩ | ⟨_, e⟩
      · rw [e]; exact List.mem_cons_of_mem _ hb
      · rw [e]; exact hb
    · cases h
  | _ => cases h
end
end T6

namespace T6
open PySem PySem.Spec PyProof.Rows L2
variable [Tbl]
/-! ### a thing of ours, from now on shared -/
def shM (f : Ev → Rs MD) : Ev → Rs MD := fun ev => match f ev with
  | .ok r ev1 => .ok (.sh, r.2) ev1
  | .ex c p ev1 => .ex c p ev1
  | .no => .no
section
variable {K : PySem.W.Frag} {C : Cs} {mg : Str → Option Value} {X : Cx} {W : WX} {H H' H1 H2 : Hp} {O O' O1 O2 S S' S1 S2 L : Ps} {P P' : Nat → Prop} {σ τ : L2.St} {ev ev1 ev2 : Ev} {e : Expr}
theorem Pst.sh {r : MD} {v : V} (p : Pst C L P σ ev O S H [r] ev1 [v] τ O1 S1 H1) : ∃ O2 S2, Pst C L P σ ev O S H [(Md.sh, r.2)] ev1 [v] τ O2 S2 H1 := by
  have g : Good C H1 O1 S1 L ((v, r) :: ents ev1 τ) := p.good
  obtain ⟨m, d⟩ := r
  have hm : m ≠ .lk := by have := p.nl; simpa using this
  obtain ⟨O', S', g', h1, h2, h3, _⟩ := g.share hm
  exact ⟨O', S', p.fit, p.lk, p.len, by simp, g', p.go.trans (.own (Oa := O1) (Sa := S1) h1 h2 h3)⟩
theorem shE_weak {f : Ev → Rs MD} : ∀ σ H Q, tE C mg W (shM f) σ H Q → tE C mg W f σ H Q := fun σ H Q => by
  rintro ⟨ev, O, S, L, ft, gd, k⟩
  refine ⟨ev, O, S, L, ft, gd, ?_⟩
  cases hf : f ev with
  | ok r ev1 =>
    have e1 : shM f ev = .ok (.sh, r.2) ev1 := by unfold shM; rw [hf]
    rw [e1] at k
    intro v H' O' S' p
    obtain ⟨O2, S2, p2⟩ := Pst.sh p
    exact k v H' O2 S2 p2
  | ex c q ev1 =>
    have e1 : shM f ev = .ex c q ev1 := by unfold shM; rw [hf]
    rw [e1] at k
    exact k
  | no =>
    have e1 : shM f ev = .no := by unfold shM; rw [hf]
    rw [e1] at k
    exact k
theorem r_sh {f : Ev → Rs MD} (he : PE X e (tE C mg W f)) : PE X e (tE C mg W (shM f)) := pe_weak he shE_weak
end
def shK : MD → Ev → Rs MD := fun r ev1 => .ok (.sh, r.2) ev1
@[simp] theorem x_shM {f : Ev → Rs MD} {ev : Ev} : shM f ev = (f ev).bind shK := by
  unfold shM
  cases f ev <;> rfl
@[simp] theorem x_shK {r : MD} {ev : Ev} : shK r ev = .ok (.sh, r.2) ev := rfl
end T6

namespace T6
open PySem PySem.Spec PyProof.Rows L2
variable [Tbl]
/-! ### xs.index(x), a look -/
def gIdx (d e : D) : Option D := match d with
  | .lst ds => if SeqAt.shaped (toPy (.lst ds)) = true ∧ SeqAt.shaped (toPy e) = true then (ds.findIdx? fun y => eqD y e).map fun j => .int (j : Nat) else none
  | _ => none
section
variable {K : PySem.W.Frag} {C : Cs} {mg : Str → Option Value} {X : Cx} {W : WX} {a b o e : Expr} {H H' H1 H2 : Hp} {O O' O1 O2 S S' S1 S2 L : Ps} {σ τ : L2.St} {ev ev1 ev2 : Ev} {pos apos p1 px : Pos} {f h : Ev → Option Pv}
theorem idx_core {x y : V} {d1 d2 d : D} {f1 f2 : List Addr} (r1 : Rep (KL K) H d1 x f1) (r2 : Rep (KL K) H d2 y f2) (hd : gIdx d1 d2 = some d) {Q : VK} (q : ∀ v, flat d = true → Rep (KL K) H d v [] → Q v H) :
    tyV K "list" x H ∧ rIndexD K x [y] H Q := by
  unfold gIdx at hd
  split at hd
  · rename_i ds
    split at hd
    · rename_i hc
      obtain ⟨j, hj, rfl⟩ := Option.map_eq_some_iff.mp hd
      obtain ⟨hjl, hjt, hno⟩ := List.findIdx?_eq_some_iff_getElem.mp hj
      have dp1 := rep_dp (d := .lst ds) (SeqAt.canLay_of_shaped hc.1) r1
      have dp2 := rep_dp (SeqAt.canLay_of_shaped hc.2) r2
      obtain ⟨a, vs, g, rfl, rs, sq⟩ := r1
      refine ⟨.inl ⟨rfl, vs, sq_of sq⟩, a, y, toPy d2, toPys ds, j, toPy ds[j], rfl, rfl, dp1, dp2, hc.1, hc.2, ?_, hjt, fun m z hm hz => ?_, q _ rfl ⟨rfl, rfl⟩⟩
      · rw [toPys_map, List.getElem?_map, List.getElem?_eq_getElem hjl]; rfl
      · rw [toPys_map, List.getElem?_map] at hz
        obtain ⟨w, hw, rfl⟩ := Option.map_eq_some_iff.mp hz
        obtain ⟨hml, rfl⟩ := List.getElem?_eq_some_iff.mp hw
        have := hno m hm
        exact Bool.eq_false_iff.mpr this
    · cases hd
  · cases hd
theorem e_idx (hu : X.A.units + 65 < cLine) (ho : PE X o (tP (KL X.K) f)) (he : PE X e (tP (KL X.K) h))
    (hbase : attributeBase o "index" X.env (eval o X.env) = eval o X.env := by rfl)
    (hfew : ((backTo pos (starEach [e] X.env)).all (fun x => !x.1) && (backToKw pos (keywordEach [] X.env)).all (fun x => x.1.isSome)
      && decide ([e].length + ([] : List Keyword).length + (if ([] : List Keyword).isEmpty then 0 else 1) < 30)) = true := by rfl)
    (hline : (apos.endLine == pos.line) = true := by rfl) (hs : starEach [e] X.env = (false, eval e X.env) :: starEach [] X.env := by rfl) (hplain : (backTo pos (starEach [] X.env)).any (·.1) = false := by rfl) :
    PE X (.Call (.Attribute o "index" apos) [e] [] pos) (tP (KL X.K) (p2 gIdx f h)) :=
  pe_weak (pe_bm PySem.F.plainAttrs_list PySem.F.slot_list_index PySem.F.type_list_index (mt_indexD hu) ho (pa_cons he pa_nil hs) hbase hfew hline hs hplain) fun σ H Q => by
  rintro ⟨ev, O, S, L, ft, gd, p, hp, q⟩
  unfold p2 at hp
  split at hp
  · rename_i a b ha hb
    obtain ⟨d, hd, rfl⟩ := Option.map_eq_some_iff.mp hp
    have hl : ∃ ds, a.d = .lst ds := by
      unfold gIdx at hd
      split at hd
      · rename_i ds e0; exact ⟨ds, e0⟩
      · cases hd
    refine ⟨ev, O, S, L, ft, gd, a, ha, fun x hx => ?_⟩
    obtain ⟨f1, r1⟩ := pv_rep hx
    refine ⟨?_, ev, O, S, L, ft, gd, b, hb, fun y hy => ?_⟩
    · obtain ⟨ds, el⟩ := hl
      rw [el] at r1
      obtain ⟨a, vs, g, rfl, rs, sq⟩ := r1
      exact .inl ⟨rfl, vs, sq_of sq⟩
    · obtain ⟨f2, r2⟩ := pv_rep hy
      exact (idx_core r1 r2 hd fun v fl rv => q v ⟨fl, rv⟩).2
  · cases hp
end
end T6

namespace T6
open PySem PySem.Spec PyProof.Rows L2
variable [Tbl]
/-! ### raise, try .. except X as e, what is asked of a kept error -/
class Cv where
  /-- the classes by their names -/
  cv : Str → Value
open Cv
/-- raise C(e) -/
def raiseK (c : Str) (r : MD) (ev1 : Ev) : Fl := if flat r.2 = true then .ex c (some r) ev1 else .no
def raiseE (c : Str) (f : Ev → Rs MD) : Ev → Fl := fun ev => bndS (f ev) (raiseK c)
/-- raise C('text') -/
def raise0 (c : Str) : Ev → Fl := fun ev => .ex c none ev
def delS (i : Nat) : Fl → Fl
  | .nx ev => .nx (ev.set i none)
  | .rt r ev => .rt r (ev.set i none)
  | .bk ev => .bk (ev.set i none)
  | .ct ev => .ct (ev.set i none)
  | _ => .no
noncomputable def errK [Cv] (i : Nat) (su : Ev → Fl) (c : Str) (p : Option MD) (ev1 : Ev) : Fl := if i < ev1.length then match p with
    | none => delS i (su (ev1.set i (some (.dp, .err (cv c) []))))
    | some r => if flat r.2 = true then delS i (su (ev1.set i (some (.dp, .err (cv c) [r.2])))) else .no
  else .no
noncomputable def tryS [Cv] (i : Nat) (tbl : List (Str × Bool)) (b su : Ev → Fl) : Ev → Fl := fun ev => match b ev with
  | .ex c p ev1 => match tbl.lookup c with
    | some true => errK i su c p ev1
    | some false => .ex c p ev1
    | none => .no
  | x => x
/-- isinstance(e, C): by the class's name -/
noncomputable def gIsE [Cv] (tbl : List (Str × Bool)) : D → Option D
  | .err v _ => (tbl.find? fun p => @decide (cv p.1 = v) (Classical.propDecidable _)).map fun p => .bl p.2
  | _ => none
/-- e.at -/
def gAt : D → Option D
  | .err _ [d] => if flat d = true then some d else none
  | _ => none

/-- what the written part says of a class of errors -/
structure ErC (K : PySem.W.Frag) (D : Addr) : Prop where
  cl : (PySem.W.clsIn K D).isSome = true
  hg : PySem.W.findIn K (.ref D) "__getattribute__" = some (some (.builtin "BaseException.__getattribute__"))
  hk : PySem.W.findIn K (.ref D) "__getattr__" = some none
  hs : PySem.W.subIn K (.ref D) (.type "BaseException") = some true
  hd : PySem.W.hasDictIn K D = true
  ha : PySem.W.findIn K (.ref D) "__class__" = some (some (.builtin "object.__class__"))
  hn : PySem.W.specialIn K (.builtin "object.__class__") "__get__" = some (some (.builtin "getset_descriptor.__get__"))
  ht : PySem.W.takesIn K (.builtin "object.__class__") = some true
  hm : PySem.W.mroIn K D (.type "object") = some true
  ty : PySem.W.typeIn K (.ref D) = some (.type "type")

section
variable {K : PySem.W.Frag} {C : Cs} {mg : Str → Option Value} {X : Cx} {W : WX} {a b e : Expr} {es : List Expr} {H H' H1 H2 : Hp} {O O' O1 O2 S S' S1 S2 L : Ps} {P P' : Nat → Prop} {σ τ : L2.St} {ev ev1 ev2 : Ev} {pos p2 : Pos} {rs rs1 rs2 : List MD} {vs vs1 vs2 : List V}
/-! raise -/
/-- what __init__ of a class whose errors bear .at keeps -/
def spAt (CA : Addr) : Sp := fun vs H Q E => ∃ a v, vs = [V.ref a, v] ∧ H a = some (exo a CA none) ∧ ∀ d, H d = none → d ≠ a → Q .non (upd (upd H d (exd d [("at", v)])) a (exo a CA (some d)))
theorem s_raise {CXX : CXT} {x : Str} {CA fI : Addr} {k : Nat} {fd : FuncData} {ps : List Str} {f : Ev → Rs MD} {p : Pos} (hc : X.calm = true) (tk : Takes X W) (T : OexC X.K CA) (iC : PySem.W.findIn X.K (.ref CA) "__init__" = some (some (.ref fI))) (tI : PySem.W.typeIn X.K (.ref fI) = some (.type "function"))
    (F1 : FnOk X.prog X.w X.K X.mg X.base CXX k fI fd ps (spAt CA)) (hr : Room (k + 1) X.A) (hb : Binds X.K fd ps []) (hx : Passes CXX X (fun _ _ _ => False)) (hg : Gl X x) (hm : X.mg x = some (.ref CA)) (he : PE X e (tE (KL X.K) X.mg W f))
    (hdb : (x == ("__debug__" : Str)) = false := by decide) (hst : starEach [e] X.env = (false, eval e X.env) :: starEach [] X.env := by rfl) (hpl : (backTo pos (starEach [] X.env)).any (·.1) = false := by rfl) :
    PS X (.Raise (some (.Call (.Name x p) [e] [] pos)) none p2) (tS (KL X.K) X.mg P W (raiseE x f)) :=
  ps_weak (ps_raise hc tk (pmk_oex (ds := []) (dvs := []) T iC tI F1 hr hb .nil hx hg hm (pa_cons he pa_nil hst) hdb hst hpl)) fun D σ H => by
    rintro ⟨ev, O, S, L, ft, gd, k⟩
    refine ⟨ev, O, S, L, ft, gd, aftS_bind k fun r ev1 k1 v H1 O1 S1 p => ?_⟩
    unfold raiseK at k1
    split at k1
    · rename_i fl
      refine ⟨by simp, fun a ha => ⟨a, v, rfl, upd_same, fun d hd hda => ⟨rfl, d, [("at", v)], upd_same, ?_, ?_, ?_⟩⟩⟩
      · rw [upd_ne hda, upd_same]
      · rwa [upd_ne hda] at hd
      · have hd1 : H1 d = none := by rwa [upd_ne hda] at hd
        have e0 : upd (del (upd (upd (upd H1 a (exo a CA none)) d (exd d [("at", v)])) a (exo a CA (some d))) a) d (.xd [("at", v)]) = upd H1 d (.xd [("at", v)]) := by
          funext b
          by_cases hb : b = d
          · subst hb; rw [upd_same, upd_same]
          · rw [upd_ne hb, upd_ne hb]
            by_cases hb2 : b = a
            · subst hb2; rw [del_same, ha]
            · rw [del_ne hb2, upd_ne hb2, upd_ne hb, upd_ne hb2]
        rw [e0]
        have p' := Pst.laid (o := .xd [("at", v)]) p hd1
        exact k1 (.ref CA) (some d) [r] [v] σ O1 S1 _ p'.all ⟨hm, d, v, rfl, upd_same, rfl, rfl⟩
    · exact k1.elim
theorem s_raise0 {x m : Str} {CA : Addr} {bmB : List Value} {B newId initId : String} {j : Nat} {p p3 : Pos} (hc : X.calm = true) (tk : Takes X W) (F : ExcBaseFacts B newId initId bmB) (q : PySem.W.excIn X.K CA bmB newId = true) (gC : X.mg x = some (.ref CA)) (kC : PySem.W.keepIn X.K (.ref CA) = true) (r : Raises X (.ref CA)) (hg : Gl X x)
    (hdb : (x == ("__debug__" : Str)) = false := by decide) :
    PS X (.Raise (some (.Call (.Name x p) [.Constant (.str m) j p3] [] pos)) none p2) (tS (KL X.K) X.mg P W (raise0 x)) :=
  ps_weak (ps_raise hc tk (pmk_own F q gC kC r hg hdb)) fun D σ H => by
    rintro ⟨ev, O, S, L, ft, gd, k⟩
    exact k (.ref CA) none [] [] σ O S H (.refl ft gd) ⟨gC, rfl, rfl, rfl⟩

/-! what is kept of an error -/
theorem erO_ok {Pg : Program} {w : World} {H : Hp} {h : Heap} {a : Addr} {cls : Value} {od : Option Addr} {oe : Obj} {vs : Array Value} (e : h.get? a = some oe) (z : Zc cls od oe) (d : oe.data = .fields vs) : ObjOk Pg w H h a (ErO cls od a) :=
  ⟨⟨oe, vs, e, z, d⟩, ⟨oe, e⟩, fun _ _ ⟨o, v, q, r⟩ k => ⟨o, v, k o q, r⟩⟩
theorem erO_at {Pg : Program} {w : World} {h : Heap} {a : Addr} {cls : Value} {od : Option Addr} (hok : HOk Pg w H h) (he : H a = some (ErO cls od a)) : ∃ (oe : Obj) (vs : Array Value), h.get? a = some oe ∧ Zc cls od oe ∧ oe.data = .fields vs := by
  have x : ObjOk Pg w H h a (.ext fun h => ∃ (oe : Obj) (vs : Array Value), h.get? a = some oe ∧ Zc cls od oe ∧ oe.data = .fields vs) := hok a _ he
  exact x.1
/-- an error that landed is tracked from now on -/
theorem Inv.track {pins : List (Addr × Obj)} {s : Shared} {a : Addr} {oe : Obj} {vs : Array Value} {cls : Value} {od : Option Addr} (I : Inv X pins σ H s) (ha : s.heap.get? a = some oe) (hz : Zc cls od oe) (hd : oe.data = .fields vs) (na : H a = none)
    (n0 : X.s_0.heap.get? a = none) (np : ∀ p ∈ X.pn ++ pins, p.1 ≠ a) (nL : a ≠ X.env.locals) : Inv X pins σ (upd H a (ErO cls od a)) s := by
  have ne0 : ∀ b o, X.s_0.heap.get? b = some o → b ≠ a := fun b o e z => by rw [z, n0] at e; cases e
  refine ⟨I.ok, I.os, I.bare, ⟨I.base.keep, I.base.slot, fun b o e n hq => ?_, I.base.there, fun b xs e => ?_, fun b o u e => ?_, fun b ps e => ?_⟩, I.loc, I.cell, ?_, fun x c e => ?_, fun p hp => ?_, fun b u e => ?_, I.len⟩
  · rw [upd_ne (ne0 b o e)]; exact I.base.free b o e n hq
  · have q := I.base.tups b xs e
    rw [upd_ne (ne_of_none q na)]; exact q
  · have q := I.base.frzs b o u e
    rw [upd_ne (ne_of_none q na)]; exact q
  · obtain ⟨m, q⟩ := I.base.tbls b ps e
    exact ⟨m, by rw [upd_ne (ne_of_none q na)]; exact q⟩
  · rw [upd_ne (Ne.symm nL)]; exact I.free
  · have nc : c ≠ a := fun z => by
      obtain ⟨v, o, ho, hv⟩ := I.cell x c e
      rw [z, ha] at ho
      cases ho
      rw [hd] at hv
      cases hv
    rw [upd_ne nc]; exact I.freeC x c e
  · obtain ⟨e, n, ne, nf, d⟩ := I.pin p hp
    exact ⟨e, by rw [upd_ne (np p hp)]; exact n, ne, nf, d⟩
  · by_cases hb : b = a
    · subst hb
      rw [upd_same] at e
      cases e
      exact erO_ok ha hz hd
    · rw [upd_ne hb] at e
      exact (I.hok b u e).stay (fun c v _ q => q) (fun c q => by rw [upd_ne (ne_of_none q na)]; exact q) fun c xs q => by rw [upd_ne (ne_of_none q na)]; exact q
theorem Inv.toSuite {pins : List (Addr × Obj)} {s : Shared} (I : Inv X pins σ H s) (a : Addr) : Inv (X.suite a (X.pn ++ pins)) [] σ H s :=
  ⟨I.ok.suite _ _, I.os, I.bare, I.base, I.loc, I.cell, I.free, I.freeC, fun p hp => I.pin p (by rw [List.append_nil] at hp; exact hp), I.hok, I.len⟩
theorem Inv.offSuite {pins : List (Addr × Obj)} {s : Shared} {a : Addr} {pn' : List (Addr × Obj)} (I : Inv (X.suite a (X.pn ++ pins)) pn' σ H s) (ok : X.Ok) : Inv X pins σ H s :=
  ⟨ok, I.os, I.bare, I.base, I.loc, I.cell, I.free, I.freeC, fun p hp => I.pin p (List.mem_append_left _ hp), I.hok, I.len⟩
/-- what the clause wishes -/
def wKp (K : PySem.W.Frag) (c : Value) (i : Nat) (ts : TS) (Wout : WX) (D : Ends) : WX := fun cls d σ H =>
  ∃ b, PySem.W.exmOne K cls c = some b ∧ (b = true → ∀ a, H a = none → ts { nx := fun σ' H' => D.nx (σ'.set i none) H', rt := D.rt, bk := fun σ' H' => D.bk (σ'.set i none) H', ct := fun σ' H' => D.ct (σ'.set i none) H' } (σ.set i (some (.ref a))) (upd H a (ErO cls d a))) ∧
    (b = false → Wout cls d σ H)
theorem ps_try_keep {x n : Str} {c : Value} {i : Nat} {body suite : List Stmt} {b₀ : Stmt} {np pos' : Pos} {tb : WX → TS} {ts : TS} {Wout : WX} (hs : X.stack = X.env :: X.outer) (hf : X.env.frame = some X.env.locals) (hex : X.ex = []) (hN : X.N.Nodup) (hi : X.N[i]? = some n) (hln : X.env.kindOf n = some .local) (hc : Names X x c) (tk : Takes X Wout)
    (hb : ∀ (W : WX) (pn : List (Addr × Obj)) (xe : Value → Shared → Prop), Takes (X.tr pn xe) W → PassesOwn (model X.prog X.w) X.A X.env xe → PSs (X.tr pn xe) body (tb W))
    (hsu : ∀ (a : Addr) (pn : List (Addr × Obj)), PSs (X.suite a pn) (b₀ :: suite) ts) :
    PS X (.Try body [.ExceptHandler (some (.Name x np)) (some n) (b₀ :: suite) pos'] [] [] pos) (fun D σ H => tb (wKp X.K c i ts Wout D) D σ H) := by
  refine ⟨fun pins s σ H D I h => ?_⟩
  have ok := I.ok
  have hfr : X.A.frames = some (X.env :: X.outer) := by rw [ok.frames, hs]
  have hloc : Loc X.env.scope n := .inl hln
  refine wpAny_Try_except ?_
  refine wpAny_mono ((hb (wKp X.K c i ts Wout D) (X.pn ++ pins) (fun e s₁ => wpAny (model X.prog X.w) X.A (noteFrame e X.env) (fun _ s₂ => wpAny (model X.prog X.w) X.A (setFlight e none) (fun _ s₃ =>
    wpAny (model X.prog X.w) X.A (handleBy e X.env [.ExceptHandler (some (.Name x np)) (some n) (b₀ :: suite) pos']) (SP X pins D) X.xe s₃) X.xe s₂) X.xe s₁) (fun u s' xx => ?_) PassesOwn.looking).run [] s σ H D (I.toTry _) h) (fun f s1 hsp => ?_) (fun e s1 he => he)
  · -- the catch
    obtain ⟨a, B, sI, pins', σ', H', cls, d, rfl, J', nb, up, sky, na, os, ag, b, hb1, hyes, hno⟩ := xx
    have J : Inv X pins σ' H' sI := J'.ofTry ok
    have sky' : Sky B (X.env :: X.outer) a (Zc cls d) X.env.locals s'.heap := by rw [← hs]; exact sky
    show wpAny (model X.prog X.w) X.A (noteFrame (.ref a) X.env) _ _ _
    refine Sky.land Zc.steady hfr hf sky' fun h3 fl3 up3 => ?_
    have J3 : Inv X pins σ' H' { s' with heap := h3 } := J.landed nb fl3.1 (up.trans up3) os ag
    obtain ⟨oe3, vs3, he3, hz3, hd3⟩ := fl3.there
    have notFr : ∀ {h : Heap} {o : Obj} {vs : Array Value}, h.FunFrames B (X.env :: X.outer) → h.get? a = some o → o.data = .fields vs → a ∉ frs (X.env :: X.outer) := fun {h o vs} ff e dd hm => by
      obtain ⟨_, o', e', hnf⟩ := ff.mem hm
      rw [e] at e'; cases e'
      exact hnf _ dd
    have nfr := notFr fl3.2.2.1 he3 hd3
    have nL : a ≠ X.env.locals := fun z => nfr (List.mem_filterMap.mpr ⟨X.env, List.mem_cons_self, by rw [hf, z]⟩)
    have nF : a ∉ X.fs := fun hm => by
      obtain ⟨e, he, q⟩ := List.mem_filterMap.mp hm
      exact nfr (List.mem_filterMap.mpr ⟨e, List.mem_cons_of_mem _ he, q⟩)
    have nB : B.get? a = none := fl3.2.1
    have n0 : X.s_0.heap.get? a = none := by
      cases q : X.s_0.heap.get? a with
      | none => rfl
      | some o =>
        obtain ⟨o', e1⟩ := J.base.there a o q (by rw [hex]; exact fun z => nomatch z)
        have := nb a o' e1 (by rw [hs]; exact nfr)
        rw [nB] at this; cases this
    have npin : ∀ p ∈ X.pn ++ pins, p.1 ≠ a := fun p hp z => by
      obtain ⟨e1, _, e2, e3, _⟩ := J.pin p hp
      have := nb p.1 p.2 e1 (fun hm => by
        rcases List.mem_cons.mp (J.stkSub p.1 hm) with z | z
        · exact e2 z
        · exact e3 z)
      rw [z, nB] at this; cases this
    have S3 := Inv.toSuite J3 a
    refine wpAny_handleBy_cons (codeAny_handlers_test ?_) (by intro q; cases q)
    have LT : PySem.W.Looks (model X.prog X.w) h3 (typeOf (.ref a)) cls := fun A Q E s k q => wpAny_typeOf_ref (k _ _ he3) (by rw [hz3.1]; exact q)
    have LM := PySem.W.exm_one (M := model X.prog X.w) (J3.kIn) LT hb1
    have test : ∀ {Q : Value → Shared → Prop} {E : Value → Shared → Prop}, Q c { s' with heap := h3 } → wpAny (model X.prog X.w) (X.A.mark (some (.ref a))) (eval (.Name x np) X.env) Q E { s' with heap := h3 } := fun {Q E} q => by
      obtain ⟨hg, hdbg, hm | ⟨hm, hv, hnn⟩⟩ := hc
      · exact ld_glob (X := X.suite a (X.pn ++ pins)) S3 hg hm q hdbg
      · exact ld_blt (X := X.suite a (X.pn ++ pins)) S3 hg hm hv q hnn hdbg
    refine test (LM.here ?_)
    cases b with
    | true =>
      refine codeAny_handlers_suite_as ?_
      refine HandSPX.lands_againZ fl3 fun h4 fl4 up4 => ?_
      have J4 : Inv X pins σ' H' { s' with heap := h4 } := J.landed nb fl4.1 ((up.trans up3).trans up4) os ag
      obtain ⟨oe4, vs4, he4, hz4, hd4⟩ := fl4.there
      have J5 := Inv.track J4 he4 hz4 hd4 na n0 npin nL
      have S4 := Inv.toSuite J5 a
      refine store_ok (X := X.suite a (X.pn ++ pins)) (v := .ref a) S4 hN hi hloc rfl (fun s5 S5 => ?_) (.inr hln)
      refine wpAny_mono ((hsu a (X.pn ++ pins)).run [] s5 _ _ _ S5 (hyes rfl a na)) (fun f s6 hsp => ?_) (fun _ _ z => False.elim z)
      have end_ : ∀ {σ6 : L2.St} {H6 : Hp} {Q : Shared → Prop}, Inv (X.suite a (X.pn ++ pins)) [] σ6 H6 s6 → (∀ s7, Inv X pins (σ6.set i none) H6 s7 → Q s7) →
          wpAny (model X.prog X.w) X.A (do bindName X.env n .none; unbindBehindTheSuite X.env n pos') (fun _ s7 => Q s7) X.xe s6 := fun {σ6 H6 Q} S6 hq => gone_ok (Inv.offSuite S6 ok) hN hi hln hq
      cases f with
      | next =>
        obtain ⟨σ6, H6, S6, q6⟩ := hsp
        exact end_ S6 fun s7 J7 => ⟨_, _, J7, q6⟩
      | brk =>
        obtain ⟨σ6, H6, S6, q6⟩ := hsp
        exact end_ S6 fun s7 J7 => ⟨_, _, J7, q6⟩
      | cont =>
        obtain ⟨σ6, H6, S6, q6⟩ := hsp
        exact end_ S6 fun s7 J7 => ⟨_, _, J7, q6⟩
      | ret u =>
        obtain ⟨v6, σ6, H6, S6, r6, q6⟩ := hsp
        exact end_ S6 fun s7 J7 => ⟨_, _, _, J7, r6, q6⟩
    | false =>
      show wpAny _ X.A (handleBy (.ref a) X.env []) _ _ _
      refine wpAny_handleBy_nil ?_
      obtain ⟨k1, k2, k3, oe, vs, T, oT, ts', he, hz, hd, h1, hr⟩ := id fl3
      unfold PySem.passOn
      refine wpAny_bind (wpAny_field he hd h1 ?_)
      rw [if_neg (show ¬ ((Value.ref T == Value.none) = true) from by simp)]
      have fin : wpAny (model X.prog X.w) X.A (setFlight (.ref a) X.env.frame) (fun _ s4 => wpAny (model X.prog X.w) X.A (throw (.ref a) : Sem Flow) (SP X pins D) X.xe s4) X.xe { s' with heap := h3 } := by
        rw [hf]
        refine HandSPX.setFlight_upZ fl3 fun h4 hh4 up4 => wpAny_throw (tk _ _ ?_)
        exact ⟨a, B, sI, pins, σ', H', cls, d, rfl, J, nb, (up.trans up3).trans up4, .inr (.inr (by rw [hs]; exact hh4)), na, os, ag, hno rfl⟩
      first
        | exact wpAny_bind (wpAny_pure (wpAny_bind fin))
        | exact wpAny_bind fin
  · cases f with
    | next =>
      obtain ⟨σ', H', J', q⟩ := hsp
      exact wpAny_execs_nil ⟨σ', H', J'.ofTry ok, q⟩
    | brk =>
      obtain ⟨σ', H', J', q⟩ := hsp
      exact ⟨σ', H', J'.ofTry ok, q⟩
    | cont =>
      obtain ⟨σ', H', J', q⟩ := hsp
      exact ⟨σ', H', J'.ofTry ok, q⟩
    | ret u =>
      obtain ⟨v, σ', H', J', r, q⟩ := hsp
      exact ⟨v, σ', H', J'.ofTry ok, r, q⟩
/-- slot i is emptied behind the suite -/
theorem Pst.del {i : Nat} (hP : ¬ P i) (p : Pst C L P σ ev O S H rs ev1 vs τ O1 S1 H1) : ∃ O', Pst C L P σ ev O S H rs (ev1.set i none) vs (τ.set i none) O' S1 H1 := by
  have gen : ∀ {ev : Ev} {σ : L2.St} {i : Nat}, Fit ev σ → ents (ev.set i none) (σ.set i none) = ents (ev.set i none) σ ∧ Fit (ev.set i none) (σ.set i none) := by
    intro ev
    induction ev with
    | nil => intro σ i f; cases σ with
      | nil => exact ⟨rfl, trivial⟩
      | cons s σ => exact f.elim
    | cons x ev ih =>
      intro σ i f
      cases σ with
      | nil => cases x <;> exact f.elim
      | cons s σ =>
        cases i with
        | zero =>
          cases x with
          | none => cases s <;> exact ⟨rfl, f⟩
          | some md => cases s with
            | none => exact f.elim
            | some v => exact ⟨rfl, f⟩
        | succ i =>
          cases x with
          | none =>
            obtain ⟨e, f'⟩ := ih (σ := σ) (i := i) f
            exact ⟨e, f'⟩
          | some md =>
            cases s with
            | none => exact f.elim
            | some v =>
              obtain ⟨e, f'⟩ := ih (σ := σ) (i := i) f
              exact ⟨congrArg ((v, md) :: ·) e, f'⟩
  obtain ⟨q, pq, f0⟩ := ents_none (i := i) p.fit
  obtain ⟨e1, f1⟩ := gen (i := i) p.fit
  have g := p.good.perm (pq.append_left _)
  have g2 : Good C H1 O1 S1 L (q ++ (vs.zip rs ++ ents (ev1.set i none) τ)) := g.perm (by
    rw [← List.append_assoc, ← List.append_assoc]
    exact List.perm_append_comm.append_right _)
  obtain ⟨O2, g3, le⟩ := Good.drop g2
  exact ⟨O2, f1, p.lk.trans (.set hP), p.len, p.nl, by rw [e1]; exact g3, p.go.less le⟩
theorem s_try [Cv] {x n : Str} {c : Value} {i : Nat} {body suite : List Stmt} {b₀ : Stmt} {np pos' : Pos} {tbl : List (Str × Bool)} {b su : Ev → Fl} (hP : ¬ P i) (hs : X.stack = X.env :: X.outer) (hf : X.env.frame = some X.env.locals) (hex : X.ex = []) (hN : X.N.Nodup) (hi : X.N[i]? = some n) (hln : X.env.kindOf n = some .local) (hc : Names X x c) (tk : Takes X W)
    (ht : ∀ nm t, tbl.lookup nm = some t → X.mg nm = some (cv nm) ∧ PySem.W.exmOne X.K (cv nm) c = some t)
    (hb : ∀ (W : WX) (pn : List (Addr × Obj)) (xe : Value → Shared → Prop), Takes (X.tr pn xe) W → PassesOwn (model X.prog X.w) X.A X.env xe → PSs (X.tr pn xe) body (tS (KL X.K) X.mg P W b))
    (hsu : ∀ (a : Addr) (pn : List (Addr × Obj)), PSs (X.suite a pn) (b₀ :: suite) (tS (KL X.K) X.mg P W0 su)) :
    PS X (.Try body [.ExceptHandler (some (.Name x np)) (some n) (b₀ :: suite) pos'] [] [] pos) (tS (KL X.K) X.mg P W (tryS i tbl b su)) :=
  ps_weak (ps_try_keep (tb := fun W' => tS (KL X.K) X.mg P W' b) (ts := tS (KL X.K) X.mg P W0 su) hs hf hex hN hi hln hc tk hb hsu) fun D σ H => by
    rintro ⟨ev, O, S, L, ft, gd, k⟩
    refine ⟨ev, O, S, L, ft, gd, ?_⟩
    unfold tryS at k
    cases hbe : b ev with
    | nx ev' => rw [hbe] at k; exact k
    | rt r ev' => rw [hbe] at k; exact k
    | bk ev' => rw [hbe] at k; exact k
    | ct ev' => rw [hbe] at k; exact k
    | no => rw [hbe] at k; exact k
    | ex c' p ev1 =>
      rw [hbe] at k
      dsimp only at k
      intro cls dd rs vs τ O1 S1 H1 q xo
      cases hl : tbl.lookup c' with
      | none => rw [hl] at k; exact k.elim
      | some t =>
        rw [hl] at k
        obtain ⟨hmg, hex1⟩ := ht c' t hl
        have ec : cls = cv c' := by
          have := xo.1
          rw [hmg] at this
          exact (Option.some.inj this).symm
        subst ec
        refine ⟨t, hex1, fun z a ha => ?_, fun z => ?_⟩
        · subst z
          dsimp only at k
          unfold errK at k
          split at k
          · rename_i il
            -- the error in its slot
            obtain ⟨ds, hk, rp⟩ : ∃ ds : List T6.D, AftS (KL X.K) X.mg P σ ev O S L H W D (delS i (su (ev1.set i (some (.dp, .err (cv c') ds))))) ∧ Rep (KL X.K) (upd H1 a (ErO (cv c') dd a)) (.err (cv c') ds) (.ref a) [] ∧ flats ds = true := by
              cases p with
              | none =>
                obtain ⟨_, h2⟩ := xo
                obtain ⟨rfl, _, _⟩ := h2
                exact ⟨[], k, ⟨rfl, rfl, a, none, [], rfl, upd_same, ⟨rfl, rfl⟩, .inl ⟨rfl, rfl⟩⟩, rfl⟩
              | some r =>
                obtain ⟨_, q1, v, e1, e2, rfl, rfl⟩ := xo
                dsimp only at k
                split at k
                · rename_i fl
                  obtain ⟨fp, rr⟩ := q.rep1
                  have rr := rep_flat0 fl rr
                  have rr2 := rr.kp (upd_kp (o := ErO (cv c') dd a) ha (rep_live rr))
                  have nq : q1 ≠ a := fun z => by rw [z, ha] at e2; cases e2
                  exact ⟨[r.2], k, ⟨rfl, by simp [flats, fl], a, dd, [v], rfl, upd_same, ⟨v, [], [], [], rfl, rfl, rr2, rfl, rfl⟩, .inr ⟨q1, v, e1, rfl, by rw [upd_ne nq]; exact e2⟩⟩, by simp [flats, fl]⟩
                · exact k.elim
            obtain ⟨O2, q2⟩ := q.drop
            have q3 := Pst.laid (o := ErO (cv c') dd a) q2 ha
            obtain ⟨O4, q4⟩ := q3.flat (d := .err (cv c') ds) (v := .ref a) (f := []) (by simpa [flat] using rp.2) rp.1
            obtain ⟨O5, q5⟩ := q4.store il hP
            refine ⟨_, O5, S1, L, q5.fit, q5.good, ?_⟩
            have k2 := aftS_next q5 hk
            cases hsu2 : su (ev1.set i (some (.dp, .err (cv c') ds))) with
            | nx ev' =>
              rw [hsu2] at k2
              intro τ2 O6 S6 H6 p6
              obtain ⟨O7, p7⟩ := p6.del hP
              exact k2 _ O7 S6 H6 p7
            | rt r ev' =>
              rw [hsu2] at k2
              intro v τ2 O6 S6 H6 p6
              obtain ⟨O7, p7⟩ := p6.del hP
              exact k2 _ _ O7 S6 H6 p7
            | bk ev' =>
              rw [hsu2] at k2
              intro τ2 O6 S6 H6 p6
              obtain ⟨O7, p7⟩ := p6.del hP
              exact k2 _ O7 S6 H6 p7
            | ct ev' =>
              rw [hsu2] at k2
              intro τ2 O6 S6 H6 p6
              obtain ⟨O7, p7⟩ := p6.del hP
              exact k2 _ O7 S6 H6 p7
            | ex c2 p2 ev' => rw [hsu2] at k2; exact k2.elim
            | no => rw [hsu2] at k2; exact k2.elim
          · exact k.elim
        · subst z
          exact k (cv c') dd rs vs τ O1 S1 H1 q xo
/-! what is asked of an error -/
/-- at a: an error of the class at D, its dict in its place -/
def ErAt (H : Hp) (a : Addr) (D : Addr) : Prop := ∃ od, H a = some (ErO (.ref D) od a) ∧ (od = none ∨ ∃ q fs, od = some q ∧ H q = some (.xd fs))
theorem erAt_inst {pins : List (Addr × Obj)} {s : Shared} {a D : Addr} (I : Inv X pins σ H s) (h : ErAt H a D) : ∃ (oe : Obj) (od : Option Obj), PySem.W.InstAt s.heap a oe D od := by
  obtain ⟨od, h1, h2⟩ := h
  obtain ⟨oe, vs, e1, e2, e3⟩ := erO_at I.hok h1
  rcases h2 with rfl | ⟨q, fs, rfl, h3⟩
  · exact ⟨oe, none, e1, e2.1, by unfold PySem.W.notCls; rw [e3] <;> rfl, by rw [e2.2]; trivial⟩
  · have hx : ObjOk X.prog X.w H s.heap q (.xd fs) := I.hok q _ h3
    obtain ⟨mA, hns, hr⟩ := hx
    obtain ⟨od, ho, hl⟩ := lookIn_ns hns
    exact ⟨oe, some od, e1, e2.1, by unfold PySem.W.notCls; rw [e3] <;> rfl, by rw [e2.2]; exact ho⟩
theorem kit_err {s : Shared} {a D : Addr} {oe : Obj} {od : Option Obj} (T : ErC K D) : PySem.W.KitX K (.ref a) (.ref D) (fun h => PySem.W.InstAt h a oe D od) := PySem.W.kitx_exc T.cl T.hg T.hk T.hs T.ha T.hn T.ht T.hm
def rIsX (K : PySem.W.Frag) (c : V) (cvx : Value) : List V → Hp → VK → Prop := fun xs H Q => ∃ (a D : Addr) (b : Bool), xs = [.ref a, c] ∧ ErAt H a D ∧ ErC K D ∧ PySem.W.kitOne K (.ref D) cvx = some b ∧ Q (.bl b) H
theorem call_isX {c : V} {cvx : Value} (hcv : ∀ u, RelV c u → u = cvx) : CallR X (.builtin "isinstance") (rIsX X.K c cvx) := by
  intro pins s σ H xs us Q I r h
  obtain ⟨a, D, b, rfl, he, T, e, q⟩ := h
  obtain ⟨u1, u2, rfl, r1, r2⟩ := vals2 r
  cases (show u1 = Value.ref a from r1)
  have := hcv _ r2
  subst this
  obtain ⟨oe, od, J⟩ := erAt_inst I he
  exact PySem.W.kia_one (kit_err (s := s) T) I.kIn J e (fun z => nomatch z) fun tk => ⟨.bl b, H, I.tok tk, rfl, q⟩
def rIsXT (K : PySem.W.Frag) (cs : List V) (us0 : List Value) : List V → Hp → VK → Prop := fun xs H Q => ∃ (a D tp : Addr) (b : Bool), xs = [.ref a, .ref tp] ∧ H tp = some (.tup cs) ∧ ErAt H a D ∧ ErC K D ∧ PySem.W.kitAny K (.ref D) us0 = some b ∧ Q (.bl b) H
theorem call_isXT {cs : List V} {us0 : List Value} (hcv : ∀ us, Vals cs us → us = us0) : CallR X (.builtin "isinstance") (rIsXT X.K cs us0) := by
  intro pins s σ H xs us Q I r h
  obtain ⟨a, D, tp, b, rfl, hT, he, T, e, q⟩ := h
  obtain ⟨u1, u2, rfl, r1, r2⟩ := vals2 r
  cases (show u1 = Value.ref a from r1)
  cases (show u2 = Value.ref tp from r2)
  obtain ⟨oe, od, J⟩ := erAt_inst I he
  obtain ⟨_, its, rv, o, h1, h2, n, h3⟩ := (show ObjOk X.prog X.w H s.heap tp (.tup cs) from I.hok tp _ hT)
  have e3 := hcv _ rv
  subst e3
  obtain ⟨oc, od', dt, sl⟩ := o
  simp only at h2 h3
  subst h2 h3
  exact PySem.W.kia_tup (kit_err (s := s) T) I.kIn J h1 e (fun z => nomatch z) fun tk => ⟨.bl b, H, I.tok tk, rfl, q⟩
theorem rep_erAt {v : Value} {ds : List D} {x : V} {fp : List Addr} {D : Addr} (r : Rep (KL K) H (.err v ds) x fp) (hv : v = .ref D) : ∃ a, x = .ref a ∧ ErAt H a D := by
  obtain ⟨_, _, a, od, vs, rfl, h1, _, h2⟩ := r
  subst hv
  exact ⟨a, rfl, od, h1, h2.imp (fun z => z.1) fun ⟨q, w, e1, _, e3⟩ => ⟨q, _, e1, e3⟩⟩
theorem gIsE_some [Cv] {tbl : List (Str × Bool)} {d z : D} (h : gIsE tbl d = some z) : ∃ v ds n b, d = .err v ds ∧ (n, b) ∈ tbl ∧ cv n = v ∧ z = .bl b := by
  unfold gIsE at h
  split at h
  · rename_i v ds
    obtain ⟨⟨n, b⟩, h1, rfl⟩ := Option.map_eq_some_iff.mp h
    have h2 := List.find?_some h1
    exact ⟨v, ds, n, b, rfl, List.mem_of_find?_eq_some h1, @of_decide_eq_true _ (Classical.propDecidable _) h2, rfl⟩
  · cases h
variable {t1 : TE} {F1 : ∀ {α : Type}, Arp α → Arp α} {p q q3 : Pos} {t : Str}
theorem k_isX [Cv] {tbl : List (Str × Bool)} {c : V} {cvx : Value} (hT : ∀ n b, (n, b) ∈ tbl → ∃ D, cv n = .ref D ∧ ErC K D ∧ PySem.W.kitOne K (.ref D) cvx = some b) : KOk (KL K) (fun vs H Q => ∃ x, vs = [x] ∧ rIsX K c cvx [x, c] H Q) (kF1 (gIsE tbl)) := fun mg W σ ev O S L H as vs tvs trs ev2 O2 S2 H2 Q p ar af => by
  unfold kF1 at af
  split at af
  · rename_i s a
    obtain ⟨x, fp, rfl, rfl, rfl, r1, _⟩ := argR_vals1 ar
    cases hg : gIsE tbl a with
    | none => rw [hg] at af; exact af.elim
    | some z =>
      rw [hg] at af
      obtain ⟨v, ds, n, b, rfl, hm, hv, rfl⟩ := gIsE_some hg
      obtain ⟨D, h1, h2, h3⟩ := hT n b hm
      obtain ⟨ad, rfl, hE⟩ := rep_erAt r1 (hv.symm.trans h1)
      obtain ⟨O4, p4⟩ := p.flat (d := .bl b) (v := .bl b) (f := []) rfl ⟨rfl, rfl⟩
      exact ⟨_, rfl, ad, D, b, rfl, hE, h2, h3, af _ H2 O4 S2 p4⟩
  · exact af.elim
theorem e_isX [Cv] {tbl : List (Str × Bool)} {c : V} {cvx : Value} (hT : ∀ n b, (n, b) ∈ tbl → ∃ D, cv n = .ref D ∧ ErC X.K D ∧ PySem.W.kitOne X.K (.ref D) cvx = some b) (hcv : ∀ u, RelV c u → u = cvx) (hg : Gl X "isinstance") (hm : X.mg "isinstance" = none) (hv : bootBuiltins "isinstance" = some (.builtin "isinstance")) (ha : PE X a t1) (w1 : OpdW (KL X.K) mg W t1 F1) (hb : PE X (.Name t q) (tC c))
    (he : starEach [a, .Name t q] X.env = (false, eval a X.env) :: starEach [.Name t q] X.env := by rfl) (he2 : starEach [.Name t q] X.env = (false, eval (.Name t q) X.env) :: starEach [] X.env := by rfl) (hpl : (backTo pos (starEach [.Name t q] X.env)).any (·.1) = false := by rfl) :
    PE X (.Call (.Name "isinstance" p) [a, .Name t q] [] pos) (tE (KL X.K) mg W (opA (kF1 (gIsE tbl)) (F1 aNil))) :=
  pe_weak (pe_callB (call_isX hcv) hg hm hv (pa_cons ha (pa_cons hb pa_nil he2) he) (by decide) (by decide) he hpl) fun σ H Q z => by
    have z := tcb_weak (k_isX (K := X.K) (c := c) hT) (aw_cons w1 aw_nil) σ H Q z
    refine cast ?_ z
    show t1 σ H (fun x H1 => ∃ x', [x] = [x'] ∧ rIsX X.K c cvx [x', c] H1 Q) = t1 σ H fun x H1 => rIsX X.K c cvx [x, c] H1 Q
    congr 1; funext x H1
    apply propext
    constructor
    · rintro ⟨x', e, q⟩; cases e; exact q
    · exact fun q => ⟨x, rfl, q⟩
theorem k_isXT [Cv] {tbl : List (Str × Bool)} {cs : List V} {us0 : List Value} (hT : ∀ n b, (n, b) ∈ tbl → ∃ D, cv n = .ref D ∧ ErC K D ∧ PySem.W.kitAny K (.ref D) us0 = some b) : KOk (KL K) (fun vs H Q => ∃ x, vs = [x] ∧ ∀ p, H p = none → rIsXT K cs us0 [x, .ref p] (upd H p (.tup cs)) Q) (kF1 (gIsE tbl)) := fun mg W σ ev O S L H as vs tvs trs ev2 O2 S2 H2 Q p ar af => by
  unfold kF1 at af
  split at af
  · rename_i s a
    obtain ⟨x, fp, rfl, rfl, rfl, r1, _⟩ := argR_vals1 ar
    cases hg : gIsE tbl a with
    | none => rw [hg] at af; exact af.elim
    | some z =>
      rw [hg] at af
      obtain ⟨v, ds, n, b, rfl, hm, hv, rfl⟩ := gIsE_some hg
      obtain ⟨D, h1, h2, h3⟩ := hT n b hm
      refine ⟨x, rfl, fun t ht => ?_⟩
      have p' := Pst.laid (o := .tup cs) p ht
      have r1' : Rep (KL K) (upd H2 t (.tup cs)) (.err v ds) x fp := r1.kp (upd_kp ht (rep_live r1))
      obtain ⟨ad, rfl, hE⟩ := rep_erAt r1' (hv.symm.trans h1)
      obtain ⟨O4, p4⟩ := Pst.flat (d := .bl b) (v := .bl b) (f := []) p' rfl ⟨rfl, rfl⟩
      exact ⟨ad, D, t, b, rfl, upd_same, hE, h2, h3, af _ _ O4 S2 p4⟩
  · exact af.elim
/-- names of classes -/
def tCs : List V → TA
  | [] => tNil
  | c :: cs => tCons (tC c) (tCs cs)
theorem tCs_eq : ∀ (cs : List V) (σ : L2.St) (H : Hp) (Q : List V → Hp → Prop), tCs cs σ H Q = Q cs H
  | [], _, _, _ => rfl
  | c :: cs, σ, H, Q => tCs_eq cs σ H fun xs H2 => Q (c :: xs) H2
theorem e_isXT [Cv] {tbl : List (Str × Bool)} {cs : List V} {us0 : List Value} {k0 : Nat} (hT : ∀ n b, (n, b) ∈ tbl → ∃ D, cv n = .ref D ∧ ErC X.K D ∧ PySem.W.kitAny X.K (.ref D) us0 = some b) (hcv : ∀ us, Vals cs us → us = us0) (hz : cs.length ≤ 1000) (hg : Gl X "isinstance") (hm : X.mg "isinstance" = none) (hv : bootBuiltins "isinstance" = some (.builtin "isinstance")) (ha : PE X a t1) (w1 : OpdW (KL X.K) mg W t1 F1) (hb : PA X es (tCs cs))
    (he : starEach [a, .Tuple es k0 q3] X.env = (false, eval a X.env) :: starEach [.Tuple es k0 q3] X.env := by rfl) (he2 : starEach [.Tuple es k0 q3] X.env = (false, eval (.Tuple es k0 q3) X.env) :: starEach [] X.env := by rfl) (hpl : (backTo pos (starEach [.Tuple es k0 q3] X.env)).any (·.1) = false := by rfl) :
    PE X (.Call (.Name "isinstance" p) [a, .Tuple es k0 q3] [] pos) (tE (KL X.K) mg W (opA (kF1 (gIsE tbl)) (F1 aNil))) :=
  pe_weak (pe_callB (call_isXT hcv) hg hm hv (pa_cons ha (pa_cons (pe_tup hb) pa_nil he2) he) (by decide) (by decide) he hpl) fun σ H Q z => by
    have z := tcb_weak (k_isXT (K := X.K) (cs := cs) hT) (aw_cons w1 aw_nil) σ H Q z
    refine cast ?_ z
    show t1 σ H (fun x H1 => ∃ x', [x] = [x'] ∧ ∀ p, H1 p = none → rIsXT X.K cs us0 [x', .ref p] (upd H1 p (.tup cs)) Q) = t1 σ H fun x H1 => tCs cs σ H1 fun ys H2 => (ys.length ≤ sizeLine ∧ ∀ p, H2 p = none → rIsXT X.K cs us0 [x, .ref p] (upd H2 p (.tup ys)) Q)
    congr 1; funext x H1
    rw [tCs_eq]
    apply propext
    constructor
    · rintro ⟨x', e, q⟩; cases e; exact ⟨Nat.le_trans hz (by decide), q⟩
    · exact fun q => ⟨x, rfl, q.2⟩
/-- a class of the program, by its name -/
theorem pe_cname {x : Str} {D : Addr} (hg : Gl X x) (hm : X.mg x = some (.ref D)) (hdb : (x == ("__debug__" : Str)) = false := by decide) : PE X (.Name x pos) (tC (.ref D)) := ⟨fun pins s σ H Q I h => ld_glob I hg hm ⟨.ref D, H, I, rfl, h⟩ hdb⟩
/-- e.at -/
noncomputable def gAtN [Cv] (n : Str) : D → Option D
  | .err v [d] => if @decide (cv n = v ∧ flat d = true) (Classical.propDecidable _) = true then some d else none
  | _ => none
theorem e_at [Cv] {D : Addr} {n : Str} {f : Ev → Option Pv} (T : ErC X.K D) (hD : cv n = .ref D) (hno : PySem.W.findIn X.K (.ref D) "at" = some none) (he : PE X e (tP (KL X.K) f)) (hb : attributeBase e "at" X.env (eval e X.env) = eval e X.env := by rfl) :
    PE X (.Attribute e "at" pos) (tP (KL X.K) (p1 (gAtN n) f)) := by
  refine ⟨fun pins s σ H Q I h => ?_⟩
  obtain ⟨ev, O, S, L, ft, gd, p, hp, q⟩ := h
  unfold p1 at hp
  split at hp
  · rename_i pv hpv
    obtain ⟨d, hd, rfl⟩ := Option.map_eq_some_iff.mp hp
    refine attr_of hb (thn (he.run pins s σ H (fun x H1 => H1 = H ∧ ∃ fp, Rep (KL X.K) H pv.d x fp) I ⟨ev, O, S, L, ft, gd, pv, hpv, fun v hv => ⟨rfl, pv_rep hv⟩⟩) fun u s1 hh => ?_)
    obtain ⟨x, H1, I1, rx, rfl, fp, rr⟩ := hh
    unfold gAtN at hd
    split at hd
    · rename_i v d' epv
      split at hd
      · rename_i hc
        cases hd
        obtain ⟨hcv, fl⟩ := @of_decide_eq_true _ (Classical.propDecidable _) hc
        rw [epv] at rr
        have hvD : v = .ref D := hcv.symm.trans hD
        obtain ⟨ad, rfl, hE⟩ := rep_erAt rr hvD
        obtain ⟨_, _, a2, od, vs, e2, h1, rs, h2⟩ := rr
        cases e2
        subst hvD
        obtain ⟨w, ws, f1, f2, rfl, ef, rw1, rw2⟩ := rs
        obtain ⟨e3, e4⟩ := rw2
        subst e3
        rcases h2 with ⟨_, z⟩ | ⟨qd, w', rfl, ew, hq⟩
        · cases z
        · cases ew
          obtain rfl : u = Value.ref ad := rx
          obtain ⟨oe, vs', e1, e2, e3⟩ := erO_at I1.hok h1
          have hx : ObjOk X.prog X.w H1 s1.heap qd (.xd [("at", w)]) := I1.hok qd _ hq
          obtain ⟨mA, hns, hr⟩ := hx
          obtain ⟨od, ho, hl⟩ := lookIn_ns hns
          obtain ⟨uv, hu, ru⟩ := RelO.some_of (v := w) (o := mA "at") (by have := hr "at"; simpa using this)
          have J : PySem.W.InstAt s1.heap ad oe D (some od) := ⟨e1, e2.1, by unfold PySem.W.notCls; rw [e3] <;> rfl, by rw [e2.2]; exact ho⟩
          exact HandSPX.exc_get I1.kIn J T.hg T.hk T.hs (PySem.W.findObj_own T.hd hno rfl (by rw [hl, hu])) (handed_of ru) ⟨w, H1, I1.tok _, ru, q w ⟨fl, rep_flat0 fl rw1⟩⟩
      · cases hd
    · cases hd
  · cases hp
/-! the __init__ of a class whose errors bear .at -/
theorem pe_teinit {x : Str} {CT : Addr} {mc : Value} {ta : TA} {pl : Sem Bool} {p1 p2 : Pos} (hg : Gl X x) (hm : X.mg x = some (.ref CT)) (ga : PySem.W.specialIn X.K (.ref CT) "__getattribute__" = some (some (.builtin "type.__getattribute__"))) (hr : PySem.W.readsIn X.K CT mc = true)
    (vV : PySem.W.findCls X.K (.ref CT) mc "__init__" = some (.val (.builtin "ValueError.__init__"))) (ha : PA X (e :: es) ta)
    (hc : eval (.Call (.Attribute (.Name x p1) "__init__" p2) (e :: es) [] pos) X.env = (do
      let ov ← eval (.Name x p1) X.env
      standAt p2.atName
      let (f, first) ← holding [ov] (getMethod ov "__init__" pl)
      callWith pos f first (backTo pos (starEach (e :: es) X.env)) (backToKw pos (keywordEach [] X.env))) := by rfl)
    (hdb : (x == ("__debug__" : Str)) = false := by decide)
    (he : starEach (e :: es) X.env = (false, eval e X.env) :: starEach es X.env := by rfl) (hpl : (backTo pos (starEach es X.env)).any (·.1) = false := by rfl) :
    PE X (.Call (.Attribute (.Name x p1) "__init__" p2) (e :: es) [] pos) (tVeI X.K ta) := by
  refine ⟨fun pins s σ H Q I h => ?_⟩
  refine PySem.W.methodCall_KW (ld_glob I hg hm ?_ hdb) hc
  refine PySem.W.method_cls I.kIn ga (PySem.W.cls_value I.kIn hr vV (by decide +kernel) ?_)
  show wpAny _ _ (callWith pos (Value.builtin "ValueError.__init__") [] (backTo pos (starEach (e :: es) X.env)) []) _ _ _
  refine PyProof.Rows.callWith_method1 (thn (ha.run pos pins _ σ H _ (I.tok _) h) fun us s1 ⟨vs, H1, I1, r1, a, C, ws, ev, hl, T, ea, q⟩ => ?_) he hpl
  subst ev
  cases r1 with
  | @cons _ u0 _ ur ra rw' =>
    obtain rfl : u0 = Value.ref a := ra
    have hlen : ur.length ≤ sizeLine := by
      rw [← Paired.length rw', sizeLine_eq]
      omega
    exact oinit_ok T I1 ea hlen fun s' J => ⟨.non, H1, J, rfl, q⟩
end
end T6

namespace T6
open PySem PySem.Spec PyProof.Rows L2
variable [Tbl]
open Cv
/-! ### errors: what is printed, run -/
@[simp] theorem x_lk1 {n : Str} {t' : Bool} {tb : List (Str × Bool)} : List.lookup n ((n, t') :: tb) = some t' := by simp [List.lookup]
noncomputable def tryK [Cv] (i : Nat) (tbl : List (Str × Bool)) (su : Ev → Fl) (x : Fl) : Fl := match x with
  | .ex c p ev1 => match tbl.lookup c with
    | some true => errK i su c p ev1
    | some false => .ex c p ev1
    | none => .no
  | x => x
section
variable [Cv] {i : Nat} {tbl : List (Str × Bool)} {b su : Ev → Fl} {ev ev1 : Ev} {r : MD} {c n m : Str} {p : Option MD} {d : D} {ds : List D} {t : Bool} {W : Ws}
@[simp] theorem x_try : tryS i tbl b su ev = tryK i tbl su (b ev) := by
  unfold tryS tryK
  cases b ev <;> rfl
@[simp] theorem x_tryK1 : tryK i tbl su (.nx ev) = .nx ev := rfl
@[simp] theorem x_tryK2 : tryK i tbl su (.rt r ev) = .rt r ev := rfl
@[simp] theorem x_tryK3 : tryK i tbl su (.bk ev) = .bk ev := rfl
@[simp] theorem x_tryK4 : tryK i tbl su (.ct ev) = .ct ev := rfl
@[simp] theorem x_tryK5 : tryK i tbl su .no = .no := rfl
@[simp] theorem x_tryK6 : tryK i tbl su (.ex c p ev) = (match tbl.lookup c with
    | some true => errK i su c p ev
    | some false => .ex c p ev
    | none => .no) := rfl
@[simp] theorem x_errK0 : errK i su c none ev1 = if i < ev1.length then delS i (su (ev1.set i (some (.dp, .err (cv c) [])))) else .no := rfl
@[simp] theorem x_errK1 {md : Md} : errK i su c (some (md, d)) ev1 = if i < ev1.length then if flat d = true then delS i (su (ev1.set i (some (.dp, .err (cv c) [d])))) else .no else .no := rfl
@[simp] theorem x_del1 : delS i (.nx ev) = .nx (ev.set i none) := rfl
@[simp] theorem x_del2 : delS i (.rt r ev) = .rt r (ev.set i none) := rfl
@[simp] theorem x_del3 : delS i (.bk ev) = .bk (ev.set i none) := rfl
@[simp] theorem x_del4 : delS i (.ct ev) = .ct (ev.set i none) := rfl
@[simp] theorem x_gIsE : gIsE ((n, t) :: tbl) (.err (cv n) ds) = some (.bl t) := by simp [gIsE]
theorem x_gIsE_no (h : cv n ≠ cv m) : gIsE ((n, t) :: tbl) (.err (cv m) ds) = gIsE tbl (.err (cv m) ds) := by
  simp only [gIsE]
  rw [List.find?_cons_of_neg (by simpa using h)]
theorem x_gAtN (h : flat d = true) : gAtN n (.err (cv n) [d]) = some d := by simp [gAtN, h]
@[simp] theorem x_gAtN_i {j : Int} : gAtN n (.err (cv n) [.int j]) = some (.int j) := x_gAtN rfl
@[simp] theorem x_gAtN_t {j k : Int} : gAtN n (.err (cv n) [.tup [.int j, .int k]]) = some (.tup [.int j, .int k]) := x_gAtN rfl
@[simp] theorem x_raiseE {f : Ev → Rs MD} : raiseE c f ev = bndS (f ev) (raiseK c) := rfl
@[simp] theorem x_raiseK {md : Md} : raiseK c (md, d) ev = if flat d = true then .ex c (some (md, d)) ev else .no := rfl
@[simp] theorem x_raise0 : raise0 c ev = .ex c none ev := rfl
@[simp] theorem x_isN_err {v : Value} : isNon (.err v ds) = false := rfl
end
theorem wp_stepX {s t : Ev → Fl} {ev ev' : Ev} {W : Ws} {c : Str} {p : Option MD} (h : s ev = .ex c p ev') (k : W.ex c p ev') : (seqS s t ev).wp W := by rw [x_seq, h]; exact k
theorem wp_ex {s : Ev → Fl} {ev ev' : Ev} {W : Ws} {c : Str} {p : Option MD} (h : s ev = .ex c p ev') (k : W.ex c p ev') : (s ev).wp W := by rw [h]; exact k
/-- what a def raises -/
theorem wp_eqX {x : Rf} {c : Str} {p : Option MD} {fs : Ev} (h : x.wp (fun _ _ => False) (fun c' p' fs' => c' = c ∧ p' = p ∧ fs' = fs)) : x = .ex c p fs := by
  cases x with
  | ok r f => exact h.elim
  | ex c' p' f => obtain ⟨rfl, rfl, rfl⟩ := h; rfl
  | no => exact h.elim
/-! ### classes of errors of the program, as the top has left them -/
structure Ec [Cv] (K : PySem.W.Frag) (mg : Str → Option Value) (nm : Str) (D : Addr) : Prop where
  g : mg nm = some (.ref D)
  v : cv nm = .ref D
  t : ErC K D
theorem kit_ref {K : PySem.W.Frag} {t : Value} {C : Addr} {b : Bool} (hd : PySem.W.hasDictIn K C = true) (ht : PySem.W.typeIn K (.ref C) = some (.type "type")) (hs : PySem.W.subIn K t (.ref C) = some b) (hn : b = false → True) : PySem.W.kitOne K t (.ref C) = some b ∨ t = .ref C := by
  by_cases e : t = .ref C
  · exact .inr e
  · refine .inl ?_
    obtain ⟨cd, hc, _⟩ := PySem.W.any_some hd
    unfold PySem.W.kitOne
    rw [if_neg (by simpa using e)]
    show (if ((PySem.W.clsIn K C).isSome && PySem.W.typeIn K (.ref C) == some (.type "type")) = true then PySem.W.subIn K t (.ref C) else none) = some b
    rw [hc, ht, if_pos (by simp), hs]
theorem kit_own {K : PySem.W.Frag} {t : Addr} {C : Addr} {b : Bool} (hd : PySem.W.hasDictIn K C = true) (ht : PySem.W.typeIn K (.ref C) = some (.type "type")) (hs : PySem.W.subIn K (.ref t) (.ref C) = some b) (hr : PySem.W.subIn K (.ref C) (.ref C) = some true) : PySem.W.kitOne K (.ref t) (.ref C) = some b := by
  rcases kit_ref hd ht hs (fun _ => trivial) with h | h
  · exact h
  · cases h
    rw [hr] at hs
    cases hs
    unfold PySem.W.kitOne
    rw [if_pos (by simp)]
theorem kit_type {K : PySem.W.Frag} {t : Addr} {T : String} {b : Bool} (hm : PySem.W.kitMeta T = true) (hs : PySem.W.subIn K (.ref t) (.type T) = some b) : PySem.W.kitOne K (.ref t) (.type T) = some b := by
  unfold PySem.W.kitOne
  rw [if_neg (by simp)]
  show (if PySem.W.kitMeta T = true then PySem.W.subIn K (.ref t) (.type T) else none) = some b
  rw [if_pos hm, hs]
theorem kitMeta_VE : PySem.W.kitMeta "ValueError" = true := by decide +kernel
theorem rel_ref {C : Addr} : ∀ u, RelV (V.ref C) u → u = Value.ref C := fun u h => h
theorem rel_ty {T : String} : ∀ u, RelV (V.ty T) u → u = Value.type T := fun u h => by
  exact (ClsV.eq (.ty T) h)
theorem tb0 {Q : Str → Bool → Prop} : ∀ n' b', (n', b') ∈ ([] : List (Str × Bool)) → Q n' b' := fun _ _ h => by cases h
theorem tb1 {Q : Str → Bool → Prop} {n : Str} {b : Bool} {tbl : List (Str × Bool)} (h : Q n b) (ht : ∀ n' b', (n', b') ∈ tbl → Q n' b') : ∀ n' b', (n', b') ∈ (n, b) :: tbl → Q n' b' := fun n' b' m => by
  rcases List.mem_cons.mp m with e | e
  · cases e; exact h
  · exact ht n' b' e
theorem tl0 {Q : Str → Bool → Prop} : ∀ n' b', List.lookup n' ([] : List (Str × Bool)) = some b' → Q n' b' := fun _ _ h => by cases h
theorem tl1 {Q : Str → Bool → Prop} {n : Str} {b : Bool} {tbl : List (Str × Bool)} (h : Q n b) (ht : ∀ n' b', tbl.lookup n' = some b' → Q n' b') : ∀ n' b', List.lookup n' ((n, b) :: tbl) = some b' → Q n' b' := fun n' b' m => by
  by_cases e : n' = n
  · subst e; rw [x_lk1] at m; cases m; exact h
  · have e2 : (n' == n) = false := by simpa using e
    simp only [List.lookup, e2] at m
    exact ht n' b' m
theorem ex_mk [Cv] {K : PySem.W.Frag} {mg : Str → Option Value} {n x : Str} {D C : Addr} {b : Bool} (e : Ec K mg n D) (h : Ec K mg x C) (s : PySem.W.subIn K (.ref D) (.ref C) = some b) : mg n = some (cv n) ∧ PySem.W.exmOne K (cv n) (.ref C) = some b := by
  rw [e.v]
  exact ⟨e.g, PySem.W.exm_ref h.t.hs h.t.hd h.t.ty s⟩
def clsBody : Stmt → List Stmt
  | .ClassDef _ _ _ b _ _ _ _ _ _ _ => b
  | _ => []
end T6

namespace T6
open PySem PySem.Spec PyProof.Rows L2
variable [Tbl]
/-! ### f(..).clear() -/
def clrK (r : MD) (ev1 : Ev) : Rs MD := match r with
  | (.dp, .lst _) => .ok (.dp, .non) ev1
  | (.rt, .lst _) => .ok (.dp, .non) ev1
  | _ => .no
def clrM (f : Ev → Rs MD) : Ev → Rs MD := fun ev => (f ev).bind clrK
section
variable {K : PySem.W.Frag} {C : Cs} {mg : Str → Option Value} {X : Cx} {W : WX} {a : Expr} {H H' H1 H2 : Hp} {O O' O1 O2 S S' S1 S2 L : Ps} {σ τ : L2.St} {ev ev1 ev2 : Ev} {pos apos : Pos} {f : Ev → Rs MD}
theorem e_clrM (ho : PE X a (tE (KL X.K) mg W f)) (hbase : attributeBase a "clear" X.env (eval a X.env) = eval a X.env := by rfl) (hline : (apos.endLine == pos.line) = true := by rfl) : PE X (.Call (.Attribute a "clear" apos) [] [] pos) (tE (KL X.K) mg W (clrM f)) :=
  pe_weak (pe_bm0 PySem.F.plainAttrs_list PySem.F.slot_list_clear PySem.F.type_list_clear mt_clear ho hbase hline) fun σ H Q => by
    rintro ⟨ev, O, S, L, ft, gd, k⟩
    refine ⟨ev, O, S, L, ft, gd, aft_bind k fun r ev1 k1 v H1 O1 S1 p => ?_⟩
    obtain ⟨m, ds, rfl, hm, k2⟩ : ∃ m ds, r = (m, .lst ds) ∧ (m = .dp ∨ m = .rt) ∧ Aft (KL X.K) mg σ ev O S L H W (.ok ((Md.dp, D.non) : MD) ev1) (fun r ev' => ∀ v H' O' S', Pst (KL X.K) L (fun _ => True) σ ev O S H [r] ev' [v] σ O' S' H' → Q v H') := by
      unfold clrK at k1
      split at k1
      · exact ⟨_, _, rfl, .inl rfl, k1⟩
      · exact ⟨_, _, rfl, .inr rfl, k1⟩
      · exact k1.elim
    obtain ⟨O2, S2, g2, go2⟩ := Good.anyRt hm p.good
    obtain ⟨b, vs, f1, O3, rfl, hH, rs, q, g3, oa, n3, mm⟩ := rt_root g2
    obtain ⟨g4, go4⟩ := g2.rtSet (es' := []) (ws := []) (f := []) hH ⟨rfl, rfl⟩ (by simp)
    have p4 : Pst (KL X.K) L (fun _ => True) σ ev O S H [(Md.rt, .lst [])] ev1 [.ref b] σ O2 S2 (upd H1 b (.lst [])) := ⟨p.fit, p.lk, rfl, by simp, g4, (p.go.trans go2).trans go4⟩
    obtain ⟨O5, p5⟩ := p4.flat (d := .non) (v := .non) (f := []) rfl ⟨rfl, rfl⟩
    exact ⟨.inl ⟨rfl, vs, .inl (.inl hH)⟩, b, vs, rfl, rfl, hH, k2 _ _ _ _ p5⟩
end
@[simp] theorem x_clrM {f : Ev → Rs MD} {ev : Ev} : clrM f ev = (f ev).bind clrK := rfl
@[simp] theorem x_clrK1 {ds : List D} {ev : Ev} : clrK (.dp, .lst ds) ev = .ok (.dp, .non) ev := rfl
@[simp] theorem x_clrK2 {ds : List D} {ev : Ev} : clrK (.rt, .lst ds) ev = .ok (.dp, .non) ev := rfl
end T6

namespace T6
open PySem PySem.Spec PyProof.Rows L2
variable [Tbl]
/-! ### a tuple of ours, taken apart: its parts are ours -/
def unpOK (tgs : List Nat) (r : MD) (ev1 : Ev) : Fl := match r with
  | (.dp, .tup ds) => if ds.length = tgs.length ∧ (∀ i ∈ tgs, i < ev1.length) then .nx (asgn tgs (ds.map fun d => (Md.dp, d)) ev1) else .no
  | _ => .no
def unpMO (tgs : List Nat) (f : Ev → Rs MD) : Ev → Fl := fun ev => bndS (f ev) (unpOK tgs)
section
variable {K : PySem.W.Frag} {C : Cs} {mg : Str → Option Value} {X : Cx} {W : WX} {a b e : Expr} {H H' H1 H2 : Hp} {O O' O1 O2 S S' S1 S2 L : Ps} {P P' : Nat → Prop} {σ τ : L2.St} {ev ev1 ev2 : Ev} {pos p2 : Pos} {rs rs1 rs2 : List MD} {vs vs1 vs2 : List V} {es : List En}
theorem Pst.storeH {i : Nat} {r : MD} {v : V} (p : Pst C L P σ ev O S H (r :: rs) ev1 (v :: vs) τ O1 S1 H1) (hi : i < ev1.length) (hP : ¬ P i) : ∃ O', Pst C L P σ ev O S H rs (ev1.set i (some r)) vs (τ.set i (some v)) O' S1 H1 := by
  obtain ⟨pp, ff⟩ := fit_set (md := r) (v := v) p.fit hi
  obtain ⟨q, pq, f0⟩ := ents_none (i := i) p.fit
  have g : Good C H1 O1 S1 L (q ++ (vs.zip rs ++ ((v, r) :: ents (ev1.set i none) τ))) := p.good.perm (by
    show ((v, r) :: (vs.zip rs ++ ents ev1 τ)).Perm _
    have h1 : ((v, r) :: (vs.zip rs ++ ents ev1 τ)).Perm ((v, r) :: (vs.zip rs ++ (q ++ ents (ev1.set i none) τ))) := (pq.append_left _).cons _
    refine h1.trans ?_
    have h2 : ((v, r) :: (vs.zip rs ++ (q ++ ents (ev1.set i none) τ))).Perm (q ++ ((v, r) :: (vs.zip rs ++ ents (ev1.set i none) τ))) := by
      have := perm3 (Y := [(v, r)]) (E := vs.zip rs) (q := q) (B := ents (ev1.set i none) τ)
      simpa using this
    exact h2.trans (List.Perm.append_left q List.perm_middle.symm))
  obtain ⟨O2, g2, le⟩ := Good.drop g
  have hl : vs.length = rs.length := by have := p.len; simpa using this
  exact ⟨O2, ff, p.lk.trans (.set hP), hl, fun x hx => p.nl x (List.mem_cons_of_mem _ hx), g2.perm (pp.symm.append_left _), p.go.less le⟩
def TgsO (C : Cs) (P : Nat → Prop) (tgs : List Nat) (g : TGs) : Prop := ∀ (σ : L2.St) (ev0 : Ev) (O0 S0 L : Ps) (H0 : Hp) (xs : List V) (rs : List MD) (τ : L2.St) (ev1 : Ev) (O S : Ps) (H : Hp) (k : L2.St → Hp → Prop),
  Pst C L P σ ev0 O0 S0 H0 rs ev1 xs τ O S H → rs.length = tgs.length → (∀ i ∈ tgs, i < ev1.length) → (∀ τ' O', Pst C L P σ ev0 O0 S0 H0 [] (asgn tgs rs ev1) [] τ' O' S H → k τ' H) → g xs τ H k
theorem tgo_nil : TgsO C P [] gNil := by
  intro σ ev0 O0 S0 L H0 xs rs τ ev1 O S H k p hl hi q
  have e1 : rs = [] := List.eq_nil_of_length_eq_zero (by simpa using hl)
  subst e1
  have e2 : xs = [] := List.eq_nil_of_length_eq_zero (by simpa using p.len)
  subst e2
  exact ⟨rfl, q τ O p⟩
theorem tgo_cons {i : Nat} {is : List Nat} {g : TGs} (hP : ¬ P i) (h : TgsO C P is g) : TgsO C P (i :: is) (gCons (gName i) g) := by
  intro σ ev0 O0 S0 L H0 xs rs τ ev1 O S H k p hl hi q
  cases rs with
  | nil => simp at hl
  | cons r rs =>
    cases xs with
    | nil => have := p.len; simp at this
    | cons x xs =>
      refine ⟨x, xs, rfl, ?_⟩
      obtain ⟨O1, p1⟩ := p.storeH (hi i (by simp)) hP
      exact h σ ev0 O0 S0 L H0 xs rs _ _ O1 S H k p1 (by simpa using hl) (fun j hj => by simpa using hi j (List.mem_cons_of_mem _ hj)) q
/-- the parts of what is ours -/
theorem ents_parts : ∀ {ds : List D} {vs : List V} {own : List Addr}, Reps RF H ds vs own → (∀ a ∈ own, Trk H a) → Ents C H S L (vs.zip (ds.map fun d => (Md.dp, d))) own
  | [], _, _, h, _ => by
    obtain ⟨rfl, rfl⟩ := h
    rfl
  | d :: ds, _, _, h, t => by
    obtain ⟨v, vs', f1, f2, rfl, rfl, r1, r2⟩ := h
    exact ⟨f1, f2, rfl, ⟨r1, fun a ha => t a (List.mem_append_left _ ha)⟩, ents_parts r2 fun a ha => t a (List.mem_append_right _ ha)⟩
theorem ents_app : ∀ {es fs : List En} {o1 o2 : List Addr}, Ents C H S L es o1 → Ents C H S L fs o2 → Ents C H S L (es ++ fs) (o1 ++ o2)
  | [], _, _, _, h, k => by
    have h : _ = [] := h
    subst h
    exact k
  | e :: es, _, _, _, h, k => by
    obtain ⟨a, b, rfl, h1, h2⟩ := h
    exact ⟨a, b ++ _, by rw [List.append_assoc], h1, ents_app h2 k⟩
theorem good_parts {v : V} {ds : List D} (g : Good C H O S L ((v, (Md.dp, .tup ds)) :: es)) : ∃ a vs, v = .ref a ∧ Rd H a (.tup vs) ∧ vs.length = ds.length ∧ Good C H O S L (vs.zip (ds.map fun d => (Md.dp, d)) ++ es) := by
  obtain ⟨ol, ⟨o1, o2, rfl, ⟨r, t⟩, h2⟩, nd, m⟩ := g.ex
  obtain ⟨a, vs, ev, q, rs⟩ := r
  exact ⟨a, vs, ev, q, rs.length, ⟨⟨o1 ++ o2, ents_app (ents_parts rs t) h2, nd, m⟩, g.os, g.sl, g.lv, g.tab⟩⟩
theorem s_unpMO {tgs : List Nat} {ts : List Expr} {k0 n : Nat} {tpos : Pos} {g : TGs} {f : Ev → Rs MD} (he : PE X e (tE (KL X.K) mg W f)) (hg : PG X (.Tuple ts k0 tpos) (gTup X.K n g)) (tk : TgsO (KL X.K) P tgs g) (hl : tgs.length = n)
    (hs : swapsWithSole [.Tuple ts k0 tpos] e pos.line X.env = pure false := by rfl) (hw : swappedStores [.Tuple ts k0 tpos] e X.env = pure none := by rfl)
    (h1 : (assignEach [.Tuple ts k0 tpos] X.env).map (·.2) = [assign (.Tuple ts k0 tpos) X.env] := by rfl) : PS X (.Assign [.Tuple ts k0 tpos] e pos) (tS (KL X.K) mg P W (unpMO tgs f)) := ps_weak (ps_asg he hg hs hw h1) fun D σ H => by
  rintro ⟨ev, O, S, L, ft, gd, k⟩
  refine ⟨ev, O, S, L, ft, gd, aftS_bind k fun r ev1 k1 v H1 O1 S1 p => ?_⟩
  unfold unpOK at k1
  split at k1
  · rename_i ds
    split at k1
    · rename_i hc
      obtain ⟨a, vs, rfl, q, hlen, g2⟩ := good_parts p.good
      have p2 : Pst (KL X.K) L P σ ev O S H (ds.map fun d => (Md.dp, d)) ev1 vs σ O1 S1 H1 := ⟨p.fit, (p.all (P := P)).lk, by simp [hlen], fun r hr => by
        obtain ⟨d, _, rfl⟩ := List.mem_map.mp hr
        simp, g2, p.go⟩
      exact ⟨a, vs, rfl, .inl q, by rw [hlen, hc.1, hl], tk σ ev O S L H vs _ σ ev1 O1 S1 H1 _ p2 (by simp [hc.1]) hc.2 fun τ' O' p3 => k1 τ' O' S1 H1 p3⟩
    · exact k1.elim
  · exact k1.elim
end
@[simp] theorem x_unpMO {tgs : List Nat} {f : Ev → Rs MD} {ev : Ev} : unpMO tgs f ev = bndS (f ev) (unpOK tgs) := rfl
@[simp] theorem x_unpOK {tgs : List Nat} {ds : List D} {ev : Ev} : unpOK tgs (.dp, .tup ds) ev = if ds.length = tgs.length ∧ (∀ i ∈ tgs, i < ev.length) then .nx (asgn tgs (ds.map fun d => (Md.dp, d)) ev) else .no := rfl
end T6

namespace T6
open PySem PySem.Spec PyProof.Rows L2
variable [Tbl]
/-! ### an item of a list of ours, taken: the rest of the list is let go -/
def takM (i : Nat) (h : Ev → Option Pv) : Ev → Rs MD := fun ev => match h ev, ev[i]? with
  | some k, some (some (.dp, .lst ds)) => match k.d with
    | .int j => match atI ds j with
      | some x => .ok (.dp, x) (ev.set i none)
      | none => .no
    | _ => .no
  | _, _ => .no
section
variable {K : PySem.W.Frag} {C : Cs} {mg : Str → Option Value} {X : Cx} {W : WX} {a b e : Expr} {H H' H1 H2 : Hp} {O O' O1 O2 S S' S1 S2 L : Ps} {P P' : Nat → Prop} {σ τ : L2.St} {ev ev1 ev2 : Ev} {pos p2 : Pos} {rs rs1 rs2 : List MD} {vs vs1 vs2 : List V} {es : List En}
theorem Reps.getS : ∀ {ds : List D} {vs : List V} {fp : List Addr} {i : Nat} {d : D}, Reps C H ds vs fp → ds[i]? = some d → ∃ v f, vs[i]? = some v ∧ Rep C H d v f ∧ f.Sublist fp
  | [], _, _, _, _, _, e => by simp at e
  | d :: ds, _, _, 0, x, h, e => by
    obtain ⟨v, vs', f1, f2, rfl, rfl, r1, r2⟩ := h
    simp only [List.getElem?_cons_zero, Option.some.injEq] at e
    subst e
    exact ⟨v, f1, rfl, r1, List.sublist_append_left _ _⟩
  | d :: ds, _, _, i + 1, x, h, e => by
    obtain ⟨v, vs', f1, f2, rfl, rfl, r1, r2⟩ := h
    simp only [List.getElem?_cons_succ] at e
    obtain ⟨w, f, e1, r, s⟩ := Reps.getS r2 e
    exact ⟨w, f, by simpa using e1, r, s.trans (List.sublist_append_right _ _)⟩
theorem Good.take {v : V} {ds : List D} (g : Good C H O S L ((v, (Md.dp, .lst ds)) :: es)) : ∃ a vs, v = .ref a ∧ Rd H a (.lst vs) ∧ vs.length = ds.length ∧ ∀ (j : Nat) z, ds[j]? = some z → ∃ w O', vs[j]? = some w ∧ Good C H O' S L ((w, (Md.dp, z)) :: es) ∧ ∀ a, O' a → O a := by
  obtain ⟨ol, ⟨o1, o2, rfl, ⟨r, t⟩, h2⟩, nd, m⟩ := g.ex
  obtain ⟨a, vs, f1, ev, rs, (⟨q, rfl⟩ | ⟨q, _⟩)⟩ := r
  · refine ⟨a, vs, ev, q, rs.length, fun j z hz => ?_⟩
    obtain ⟨w, f, e1, r1, s1⟩ := rs.getS hz
    have hsub : (f ++ o2).Sublist ((a :: f1) ++ o2) := (List.Sublist.cons a s1).append (List.Sublist.refl _)
    refine ⟨w, fun x => x ∈ f ++ o2, e1, ⟨⟨f ++ o2, ⟨f, o2, rfl, ⟨r1, fun b hb => t b (List.mem_cons_of_mem _ (s1.subset hb))⟩, h2⟩, hsub.nodup nd, fun _ => Iff.rfl⟩, fun x hx => g.os x ((m x).mp (hsub.subset hx)), g.sl, g.lv, g.tab⟩, fun x hx => (m x).mp (hsub.subset hx)⟩
  · exact q.elim
theorem e_take {i : Nat} {h : Ev → Option Pv} (ha : PE X a (tP (KL X.K) (pName i))) (hb : PE X b (tP (KL X.K) h)) (hs : PlainIx b) : PE X (.Subscript a b pos) (tE (KL X.K) mg W (takM i h)) := pe_weak (pe_ix ix_seq ha hb hs) fun σ H Q => by
  rintro ⟨ev, O, S, L, ft, gd, k⟩
  unfold takM at k
  split at k
  · rename_i kk ds hk he
    split at k
    · rename_i j ek
      split at k
      · rename_i z hz
        refine ⟨ev, O, S, L, ft, gd, .vw i true (.lst ds), by simp only [pName, he], fun x hx => ⟨ev, O, S, L, ft, gd, kk, hk, fun y hy => ?_⟩⟩
        obtain ⟨f2, r2⟩ := pv_rep hy
        rw [ek] at r2
        obtain ⟨v0, e1, pm, f1⟩ := fit_get ft he
        obtain ⟨v1, m1, d1, e2, e3, et, _⟩ := hx
        rw [e1] at e2
        cases e2
        have ex := (et rfl).1
        subst ex
        obtain ⟨c, vs, ec, rd, hl, tk⟩ := (gd.perm pm).take
        obtain ⟨j', hj, g2⟩ := atI_len hl hz
        obtain ⟨w, O', hw, g', le⟩ := tk j' z hj
        refine .inl ⟨c, vs, j, w, ec, rep_int r2, .inl rd, g2 w hw, ?_⟩
        exact k w H O' S ⟨f1, .put fun d z => (nomatch z), rfl, by simp, g', ⟨fun _ _ h _ => .inl h, fun _ h => h, fun _ h => h, fun a q => .inl (le a q), fun _ h => h, fun a q => .inl q⟩⟩
      · exact k.elim
    · exact k.elim
  · exact k.elim
end
@[simp] theorem x_takM {i : Nat} {h : Ev → Option Pv} {ev : Ev} : takM i h ev = (match h ev, ev[i]? with
  | some k, some (some (.dp, .lst ds)) => match k.d with
    | .int j => match atI ds j with
      | some x => .ok (.dp, x) (ev.set i none)
      | none => .no
    | _ => .no
  | _, _ => .no) := rfl
end T6

set_option maxHeartbeats 4000000
namespace T6
open PySem PySem.Spec PyProof.Rows L2
variable [Tbl]
/-! ### sorted(set(a list of ints)) -/
/-- a set, new and empty -/
abbrev setN (w : World) : Obj := { cls := .type "set", dict := none, data := .set #[] 0 (.fresh 0 0 (!w.params.followText "set-order")) }
section
variable {P : Program} {w : World} {A : Around} {E : Value → Shared → Prop} {s : Shared}
theorem call_setL {l : Addr} {items : Array Value} {ns : List Int} {Q : Value → Shared → Prop} (q0 : A.handled = none) (ql : s.heap.IsList l items) (qi : IntsAre items.toList ns) (qb : ns.length + 1 < scanBound)
    (k : ∀ (h2 : Heap) (tk c : Nat), SetR w h2 s.heap.objs.size (fun j => decide (j ∈ ns)) c → (∀ b o, s.heap.get? b = some o → h2.get? b = some o) → Q (.ref s.heap.objs.size) { s with heap := h2, toks := tk }) : wpAny (model P w) A (call (.type "set") [.ref l]) Q E s := by
  have isz : items.size = ns.length := by
    have := IntsAre.length qi
    rwa [Array.length_toList] at this
  obtain ⟨cc, tt, mro⟩ := F.called_set.mro
  have f1 := F.called_set.made
  have f2 := F.called_set.sub
  have f3 := F.called_set.notType
  have f4 := F.called_set.canCreate
  refine wpAny_call (codeAny_of_tree ?_)
  show wpAny _ _ (callAny (.type "set") _) _ _ _
  refine wpAny_pure ⟨Code.quiet_builtin _ (by decide +kernel), codeAny_builtin F.entry_type_call ?_⟩
  rw [Around.under_plain (weight_type_call_type "set" [.ref l] []) rfl]
  have f5 := F.typeCall_set_1 (.ref l)
  repeat (any_goals (first | assumption | wp_step))
  refine codeAny_mono (code_set_led1 (.ref l) (E := E) (Q₁ := fun y t => y = .ref s.heap.objs.size ∧ t = { s with heap := s.heap.push (setN w) }) ⟨rfl, rfl⟩) fun r t hr => ?_
  match r, hr with
  | .error e, hr => exact hr
  | .ok (.ret y), hr =>
    obtain ⟨rfl, rfl⟩ := hr
    have at0 : (s.heap.push (setN w)).get? s.heap.objs.size = some (setN w) := Heap.get?_push_size _ rfl
    have ty0 : Shared.TypeIs { s with heap := s.heap.push (setN w) } (.ref s.heap.objs.size) "set" := ⟨_, at0, rfl⟩
    have g1 := F.called_set.init.lookup
    have g2 := F.called_set.init.bind (.ref s.heap.objs.size)
    repeat (any_goals (first | assumption | wp_step))
    refine codeAny_mono (codeAny_call_builtin (R := wants (fun r t => r = .none ∧ ∃ h2 tk c, t = { s with heap := h2, toks := tk } ∧ SetR w h2 s.heap.objs.size (fun j => decide (j ∈ ns)) c ∧ (∀ b o, s.heap.get? b = some o → h2.get? b = some o)) E) F.called_set.init.plain F.entry_set_init (check_set_init_1 ty0 ?_)) fun r2 t2 hr2 => ?_
    · obtain ⟨⟨c0, d0, x0, y0⟩, ho, ec, n0, ed⟩ := ql
      simp only at ec ed
      subst ec ed
      have m1 := F.sub_list_set
      have m2 := F.sub_list_frozenset
      have m3 : (Value.type "list" == Value.type "dict") = false := by decide
      have ho1 : (s.heap.push (setN w)).get? l = some { cls := .type "list", dict := d0, data := .seq items n0, slots := y0 } := Heap.get?_push_of_some _ ho
      have ls1 : (s.heap.push (setN w)).IsList l items := ⟨_, ho1, rfl, n0, rfl⟩
      unfold Builtin.«set.__init__» noKeywords Builtin.Frozenset.updateFrom
      generalize ePI : pyIter = PI
      wp_walk
      subst ePI
      refine wpAny_pyIter_list ls1 ?_
      refine wpAny_bind (wpAny_runValue ?_)
      have lt : l < s.heap.objs.size := Heap.lt_size ho
      have sz : (s.heap.push (setN w)).objs.size = s.heap.objs.size + 1 := Heap.size_push ..
      have val : ∀ (i : Nat) (v : Value), items[i]? = some v → ∃ j t, ns[i]? = some j ∧ v = .int j t := fun i v hv => by
        have hi : i < ns.length := by rw [← isz]; exact (Array.getElem?_eq_some_iff.mp hv).1
        obtain ⟨t, e⟩ := IntsAre.int_at qi i v (by rw [Array.getElem?_toList]; exact hv)
        exact ⟨ns[i], t, List.getElem?_eq_getElem hi, by rw [e, List.getD_eq_getElem?_getD, List.getElem?_eq_getElem hi]; rfl⟩
      refine set_update_ints ((Walks.list (by simp [q0]) _ l (by rw [sz]; exact Nat.ne_of_lt (Nat.lt_succ_of_lt lt)) items).toS) s.heap.objs.size (by rw [sz]; simp; exact fun e => Nat.ne_of_gt lt e) ns isz qb val (items.size - 0) 0 _ (by omega) (Nat.zero_le _) ⟨⟨_, Heap.get?_push_size _ rfl, rfl, rfl⟩, ls1.push _⟩ ⟨0, Nat.le_refl 0, setR_new_at (Heap.get?_push_of_some _ at0)⟩ fun t3 c3 mv _ R3 => ?_
      obtain ⟨h3, ge, dr, tk, os⟩ := t3
      obtain rfl : ge = s.gens := mv.gens
      obtain rfl : dr = s.drawn := mv.drawn
      obtain rfl : os = s.os := mv.os
      show wpAny _ _ _ _ _ _
      refine wpAny_pure ?_
      show wpAny _ _ (ret Value.none) _ _ _
      refine wpAny_pure ⟨rfl, h3, tk, c3, rfl, R3, fun b o e => ?_⟩
      have b0 : b < s.heap.objs.size := Heap.lt_size e
      exact mv.heap b o (by rw [sz]; simp; exact ⟨Nat.ne_of_lt b0, Nat.ne_of_lt (Nat.lt_succ_of_lt b0)⟩) (Heap.get?_push_of_some _ (Heap.get?_push_of_some _ e))
    · match r2, hr2 with
      | .error e, hr2 => exact hr2
      | .ok (.ret y), hr2 =>
        obtain ⟨rfl, h2, tk, c, rfl, R, kp⟩ := hr2
        repeat (any_goals (first | assumption | wp_step))
        exact k _ _ _ R kp
end
theorem nodup_len : ∀ {l ds : List Int}, l.Nodup → (∀ x ∈ l, x ∈ ds) → l.length ≤ ds.length
  | [], _, _, _ => Nat.zero_le _
  | x :: l, ds, h, m => by
    have hx := m x List.mem_cons_self
    have h' := List.nodup_cons.mp h
    have := nodup_len (l := l) (ds := ds.erase x) h'.2 fun y hy => (List.mem_erase_of_ne (fun e => h'.1 (by rw [← e]; exact hy))).mpr (m y (List.mem_cons_of_mem _ hy))
    rw [List.length_erase_of_mem hx] at this
    have : 0 < ds.length := List.length_pos_of_mem hx
    simp only [List.length_cons]
    omega
def sIns (x : Int) : List Int → List Int
  | [] => [x]
  | y :: ys => if x < y then x :: y :: ys else if x = y then y :: ys else y :: sIns x ys
/-- rising, each once -/
def srtSet (ns : List Int) : List Int := ns.foldr sIns []
theorem mem_sIns {x k : Int} : ∀ {l : List Int}, k ∈ sIns x l ↔ k = x ∨ k ∈ l
  | [] => by simp [sIns]
  | y :: ys => by
    have ih := mem_sIns (x := x) (k := k) (l := ys)
    unfold sIns
    split
    · simp
    · split
      · rename_i h; subst h; simp
      · simp only [List.mem_cons, ih]
        constructor
        · rintro (h | h | h)
          · exact .inr (.inl h)
          · exact .inl h
          · exact .inr (.inr h)
        · rintro (h | h | h)
          · exact .inr (.inl h)
          · exact .inl h
          · exact .inr (.inr h)
theorem pw_sIns {x : Int} : ∀ {l : List Int}, l.Pairwise (· < ·) → (sIns x l).Pairwise (· < ·)
  | [], _ => by simp [sIns]
  | y :: ys, h => by
    have h' := List.pairwise_cons.mp h
    unfold sIns
    split
    · rename_i hx
      refine List.pairwise_cons.mpr ⟨fun z hz => ?_, h⟩
      rcases List.mem_cons.mp hz with rfl | hz
      · exact hx
      · exact Int.lt_trans hx (h'.1 z hz)
    · split
      · exact h
      · refine List.pairwise_cons.mpr ⟨fun z hz => ?_, pw_sIns h'.2⟩
        rcases mem_sIns.mp hz with rfl | hz
        · omega
        · exact h'.1 z hz
theorem mem_srtSet {k : Int} : ∀ {ns : List Int}, k ∈ srtSet ns ↔ k ∈ ns
  | [] => by simp [srtSet]
  | n :: ns => by
    have ih := mem_srtSet (k := k) (ns := ns)
    show k ∈ sIns n (srtSet ns) ↔ _
    rw [mem_sIns, ih, List.mem_cons]
theorem pw_srtSet : ∀ {ns : List Int}, (srtSet ns).Pairwise (· < ·)
  | [] => List.Pairwise.nil
  | n :: ns => pw_sIns (l := srtSet ns) pw_srtSet
theorem lt_one : ∀ {a b : List Int}, a.Pairwise (· < ·) → b.Pairwise (· < ·) → (∀ k, k ∈ a ↔ k ∈ b) → a = b
  | [], [], _, _, _ => rfl
  | [], y :: b, _, _, h => by have := (h y).mpr List.mem_cons_self; simp at this
  | x :: a, [], _, _, h => by have := (h x).mp List.mem_cons_self; simp at this
  | x :: a, y :: b, ha, hb, h => by
    have ha' := List.pairwise_cons.mp ha
    have hb' := List.pairwise_cons.mp hb
    have e : x = y := by
      have h1 := (h x).mp List.mem_cons_self
      have h2 := (h y).mpr List.mem_cons_self
      rcases List.mem_cons.mp h1 with h1 | h1
      · exact h1
      · rcases List.mem_cons.mp h2 with h2 | h2
        · exact h2.symm
        · have := ha'.1 y h2
          have := hb'.1 x h1
          omega
    subst e
    rw [lt_one ha'.2 hb'.2 fun k => ?_]
    have hk := h k
    constructor
    · intro m
      rcases List.mem_cons.mp (hk.mp (List.mem_cons_of_mem _ m)) with e | m2
      · have := ha'.1 k m; omega
      · exact m2
    · intro m
      rcases List.mem_cons.mp (hk.mpr (List.mem_cons_of_mem _ m)) with e | m2
      · have := hb'.1 k m; omega
      · exact m2
theorem srtSet_len {ns : List Int} : (srtSet ns).length ≤ ns.length := nodup_len (pw_srtSet.imp fun h => by omega) fun _ h => mem_srtSet.mp h
def rSetL (K : PySem.W.Frag) (w : World) : List V → Hp → VK → Prop := fun xs H Q => ∃ (l : Addr) (ns : List Int), xs = [V.ref l] ∧ SqL K H l (ns.map V.int) ∧ ns.length + 1 < scanBound ∧ ∀ (p : Addr) (n : Nat), n ≤ (srtSet ns).length → H p = none → Q (.ref p) (upd H p (SetO w p (fun j => decide (j ∈ ns)) n))
theorem cr_setL {X : Cx} (hc : X.calm = true) : CallR X (.type "set") (rSetL X.K X.w) := by
  intro pins s σ H xs us Q I r h
  obtain ⟨l, ns, rfl, hq, hb, q⟩ := h
  rw [Vals.ref1 r]
  obtain ⟨its, rr, pl, hz⟩ := I.list hq
  refine call_setL (I.ok.hd hc) pl.isList (by simpa using ints_of_vals rr) hb fun h2 tk c R kp => ?_
  have hn : H s.heap.objs.size = none := I.hok.fresh (Nat.le_refl _)
  refine ⟨.ref _, upd H s.heap.objs.size (SetO X.w s.heap.objs.size (fun j => decide (j ∈ ns)) c), I.laid (t' := tk) kp (Nat.le_refl _) (setO_new R), rfl, q _ c ?_ hn⟩
  obtain ⟨o, es, ep, t, _, _, _, _, nd, mm, _, _, e, _⟩ := R
  have := nodup_len nd (ds := srtSet ns) fun k hk => mem_srtSet.mpr (by simpa using (mm k).mpr hk)
  rw [List.length_map, Array.length_toList, e] at this
  exact this
def stOk (ns : List Int) : Bool := decide ((srtSet ns).length < 64) && decide (ns.length < 4000)
def kSrtS : List Ag → Ev → Rs MD := fun as ev => match as with
  | [.vl _ (.lst ds)] => match intsOf ds with
    | some ns => if stOk ns = true then .ok (.dp, .lst ((srtSet ns).map D.int)) ev else .no
    | none => .no
  | _ => .no
theorem k_srtS {K : PySem.W.Frag} {w : World} : KOk (KL K) (fun xs H Q => rSetL K w xs H fun v H1 => rSortedSet w [v] H1 Q) kSrtS := fun mg W σ ev O S L H as vs tvs trs ev2 O2 S2 H2 Q p ar af => by
  unfold kSrtS at af
  split at af
  · rename_i s ds
    obtain ⟨x, fp, rfl, rfl, rfl, r1, s1, t1⟩ := argR_vals1 ar
    obtain ⟨a, xs, f1, rfl, rr, sq⟩ := r1
    split at af
    · rename_i ns hns
      split at af
      · rename_i hk
        have hk' : (srtSet ns).length < 64 ∧ ns.length < 4000 := by simpa [stOk] using hk
        have ex := reps_ints rr hns
        subst ex
        refine ⟨a, ns, rfl, sq_of sq, by unfold scanBound; omega, fun l n hn hl => ⟨l, _, n, rfl, upd_same, by omega, fun ns' q hp hm _ hq => ?_⟩⟩
        have e : ns' = srtSet ns := lt_one hp pw_srtSet fun k => by rw [hm k, mem_srtSet]; simp
        subst e
        have p2 := Pst.laid (o := SetO w l (fun j => decide (j ∈ ns)) n) p hl
        obtain ⟨r4, k4, p4⟩ := newL_ok (s := true) (ds := (srtSet ns).map D.int) p2 reps_of_ints (by simp) (show Aft (KL K) mg σ ev O S L H W (newL true _ ev2) _ by unfold newL; rw [if_pos flats_int]; exact af)
        obtain ⟨O5, S5, p5⟩ := p4 q hq
        exact k4 _ _ _ _ p5
      · exact af.elim
    · exact af.elim
  · exact af.elim
section
variable {K : PySem.W.Frag} {C : Cs} {mg : Str → Option Value} {X : Cx} {W : WX} {a b e : Expr} {pos p1 p2 q1 : Pos} {ts : TA} {B : ∀ {α : Type}, Arp α}
/-- sorted(set(e)) -/
theorem e_srtS (hc : X.calm = true) (hg : Gl X "sorted") (hm : X.mg "sorted" = none) (hg2 : Gl X "set") (hm2 : X.mg "set" = none) (ha : PA X [e] ts) (w : ArgsW (KL X.K) mg W ts B)
    (he : starEach [e] X.env = (false, eval e X.env) :: starEach [] X.env := by rfl)
    (he2 : starEach [.Call (.Name "set" p2) [e] [] q1] X.env = (false, eval (.Call (.Name "set" p2) [e] [] q1) X.env) :: starEach [] X.env := by rfl) (hpl : (backTo q1 (starEach [] X.env)).any (·.1) = false := by rfl) (hpl2 : (backTo pos (starEach [] X.env)).any (·.1) = false := by rfl) :
    PE X (.Call (.Name "sorted" p1) [.Call (.Name "set" p2) [e] [] q1] [] pos) (tE (KL X.K) mg W (opA kSrtS B)) :=
  pe_weak (pe_callB (cr_sortedSet hc) hg hm boot_sorted (pa_cons (pe_callTy (cr_setL hc) hg2 hm2 boot_set ha (by decide) (by decide) he hpl) pa_nil he2) (by decide) (by decide) he2 hpl2) fun σ H Q z => by
    have z := tcb_weak (k_srtS (K := X.K) (w := X.w)) w σ H Q z
    exact z
end
@[simp] theorem x_srtS {s : Bool} {ns : List Int} {ev : Ev} : kSrtS [.vl s (.lst (ns.map D.int))] ev = if stOk ns = true then .ok (.dp, .lst ((srtSet ns).map D.int)) ev else .no := by
  simp only [kSrtS, ints_of]
end T6

namespace T6
open PySem PySem.Spec PyProof.Rows L2
variable [Tbl]
/-! ### [e] * n -/
def repK (h : Ev → Option Pv) (r : MD) (ev1 : Ev) : Rs MD := match r, h ev1 with
  | (m, .lst [d]), some k => match k.d with
    | .int n => if (m = .dp ∨ m = .rt) ∧ flat d = true ∧ 0 ≤ n ∧ n ≤ 1000000 then .ok (.dp, .lst (List.replicate n.toNat d)) ev1 else .no
    | _ => .no
  | _, _ => .no
def repM (f : Ev → Rs MD) (h : Ev → Option Pv) : Ev → Rs MD := fun ev => (f ev).bind (repK h)
section
variable {K : PySem.W.Frag} {C : Cs} {mg : Str → Option Value} {X : Cx} {W : WX} {a b e : Expr} {H H' H1 H2 : Hp} {O O' O1 O2 S S' S1 S2 L : Ps} {P P' : Nat → Prop} {σ τ : L2.St} {ev ev1 ev2 : Ev} {pos p2 : Pos} {rs rs1 rs2 : List MD} {vs vs1 vs2 : List V} {es : List En}
theorem flats_rep {d : D} (h : flat d = true) : ∀ n : Nat, flats (List.replicate n d) = true
  | 0 => rfl
  | n + 1 => by rw [List.replicate_succ, x_flats1, h, flats_rep h n]; rfl
theorem reps_rep {d : D} {v : V} (h : Rep C H d v []) : ∀ n : Nat, Reps C H (List.replicate n d) (List.replicate n v) []
  | 0 => ⟨rfl, rfl⟩
  | n + 1 => ⟨v, List.replicate n v, [], [], rfl, rfl, h, reps_rep h n⟩
theorem flatten_one {v : V} : ∀ n : Nat, (List.replicate n [v]).flatten = List.replicate n v
  | 0 => rfl
  | n + 1 => by rw [List.replicate_succ, List.flatten_cons, flatten_one n, List.replicate_succ]; rfl
theorem e_rep {f : Ev → Rs MD} {h : Ev → Option Pv} (ha : PE X a (tE (KL X.K) mg W f)) (hb : PE X b (tP (KL X.K) h)) : PE X (.BinOp a .Mult b pos) (tE (KL X.K) mg W (repM f h)) :=
  pe_weak (pe_op op_rep ha hb) fun σ H Q => by
  rintro ⟨ev, O, S, L, ft, gd, k⟩
  refine ⟨ev, O, S, L, ft, gd, aft_bind k fun r ev1 k1 v H1 O1 S1 p => ?_⟩
  obtain ⟨OE, g1, nx⟩ := p.next
  unfold repK at k1
  split at k1
  · rename_i m d kk hk
    split at k1
    · rename_i n en
      split at k1
      · rename_i hc
        obtain ⟨hm, fd, h0, hn⟩ := hc
        refine ⟨ev1, OE, S1, L, p.fit, g1, kk, hk, fun y hy => ?_⟩
        obtain ⟨f2, r2⟩ := pv_rep hy
        rw [en] at r2
        obtain ⟨Oa, Sa, Ga, goa⟩ := p.good.anyRt hm
        obtain ⟨q, ws, f1, Ob, hv, hq, rz, _⟩ := rt_root Ga
        obtain ⟨w, ws', g2, g3, rfl, _, rw1, rn⟩ := rz
        obtain ⟨rfl, _⟩ := rn
        have fw := rep_flat fd rw1
        subst fw
        refine ⟨q, n, [w], hv, rep_int r2, hq, by omega, by omega, show 1 * n.toNat ≤ sizeLine from x_sz (show 1 * n.toNat ≤ 1000000 by omega), fun l hl => ?_⟩
        rw [flatten_one]
        obtain ⟨O2, p2⟩ := p.drop
        obtain ⟨r4, k4, p4⟩ := newL_ok (s := true) (ds := List.replicate n.toNat d) p2 (reps_rep rw1 _) (by simp) (show Aft (KL X.K) mg σ ev O S L H W (newL true _ ev1) _ by unfold newL; rw [if_pos (flats_rep fd _)]; exact k1)
        obtain ⟨O5, S5, p5⟩ := p4 l hl
        exact k4 _ _ _ _ p5
      · exact k1.elim
    · exact k1.elim
  · exact k1.elim
end
@[simp] theorem x_repM {f : Ev → Rs MD} {h : Ev → Option Pv} {ev : Ev} : repM f h ev = (f ev).bind (repK h) := rfl
@[simp] theorem x_repK {h : Ev → Option Pv} {m : Md} {d : D} {ev1 : Ev} : repK h (m, .lst [d]) ev1 = (match h ev1 with
  | some k => match k.d with
    | .int n => if (m = .dp ∨ m = .rt) ∧ flat d = true ∧ 0 ≤ n ∧ n ≤ 1000000 then .ok (.dp, .lst (List.replicate n.toNat d)) ev1 else .no
    | _ => .no
  | none => .no) := by
  unfold repK
  cases h ev1 <;> rfl
end T6

namespace T6
open PySem PySem.Spec PyProof.Rows L2
variable [Tbl]
/-! ### dicts by ints and texts, with plain things in them -/
def keyD : D → Option Key
  | .int i => some (.inl i)
  | .str x => some (.inr x)
  | _ => none
open Classical in
noncomputable def gInK (d e : D) : Option D := match e with
  | .dct ks _ => (keyD d).map fun k => .bl (decide (k ∈ ks))
  | _ => none
noncomputable def gNotInK (d e : D) : Option D := (gInK d e).bind gNot
open Classical in
noncomputable def putD (ks : List Key) (ds : List D) (k : Key) (d : D) : D :=
  if k ∈ ks then .dct ks (List.zipWith (fun k' d' => if k' = k then d else d') ks ds) else .dct (ks ++ [k]) (ds ++ [d])
/-- {} -/
def dnewM : Ev → Rs MD := fun ev => .ok (.dp, .dct [] []) ev
/-- dict(x) -/
def dcpM (h : Ev → Option Pv) : Ev → Rs MD := fun ev => match h ev with
  | some pv => match pv.d with
    | .dct ks ds => if flats ds = true then .ok (.dp, .dct ks ds) ev else .no
    | _ => .no
  | none => .no
/-- x[k] = e -/
noncomputable def dputK (i : Nat) (h : Ev → Option Pv) (r : MD) (ev1 : Ev) : Fl := match h ev1, ev1[i]? with
  | some pv, some (some (.dp, .dct ks ds)) => match keyD pv.d with
    | some k => if flat r.2 = true ∧ flats ds = true ∧ ks.length < sizeLine then .nx (ev1.set i (some (.dp, putD ks ds k r.2))) else .no
    | none => .no
  | _, _ => .no
noncomputable def dputS (i : Nat) (f : Ev → Rs MD) (h : Ev → Option Pv) : Ev → Fl := fun ev => bndS (f ev) (dputK i h)
def rInK : R2 := fun y x H Q => ∃ a o, x = .ref a ∧ DGet H a y o ∧ Q (.bl o.isSome) H
def rNotInK : R2 := fun y x H Q => ∃ a o, x = .ref a ∧ DGet H a y o ∧ Q (.bl (!o.isSome)) H
section
variable {K : PySem.W.Frag} {C : Cs} {mg : Str → Option Value} {X : Cx} {W : WX} {a b e : Expr} {H H' H1 H2 : Hp} {O O' O1 O2 S S' S1 S2 L : Ps} {P P' : Nat → Prop} {σ τ : L2.St} {ev ev1 ev2 : Ev} {pos p2 : Pos} {rs rs1 rs2 : List MD} {vs vs1 vs2 : List V} {es : List En}
theorem o_inK (hu : X.A.units + 1 < cLine) : OpR X (compareOp .In) rInK := by
  intro pins s σ H x y v u Q I rx ry h
  obtain ⟨a, o, rfl, g, q⟩ := h
  obtain rfl : u = Value.ref a := ry
  exact d_in hu I g rx fun s3 I3 => ⟨.bl o.isSome, H, I3, rfl, q⟩
theorem o_notInK (hu : X.A.units + 1 < cLine) : OpR X (compareOp .NotIn) rNotInK := by
  intro pins s σ H x y v u Q I rx ry h
  obtain ⟨a, o, rfl, g, q⟩ := h
  obtain rfl : u = Value.ref a := ry
  exact d_notIn hu I g rx fun s3 I3 => ⟨.bl (!o.isSome), H, I3, rfl, q⟩
theorem u1R {k : Nat} {A : Around} (r : Room k A) : A.units + 1 < cLine := by have := T6.Room.u65 r; omega
theorem keyD_rep {d : D} {k : Key} {v : V} {fp : List Addr} (h : keyD d = some k) (r : Rep C H d v fp) : v = kV k := by
  unfold keyD at h
  split at h
  · cases h; exact rp_int r
  · cases h; exact rp_str r
  · cases h
open Classical in
theorem key_any {k : Key} : ∀ kvs : List (Key × V), (kvs.any fun kv => decide (kv.1 = k)) = decide (k ∈ kvs.map (·.1))
  | [] => by simp
  | p :: kvs => by
    rw [List.any_cons, key_any kvs]
    by_cases e : p.1 = k
    · simp [e]
    · have e2 : ¬ k = p.1 := fun z => e z.symm
      simp [e, e2]
theorem inK_core {x y : V} {d1 d2 d : D} {f1 f2 : List Addr} (r1 : Rep C H d1 x f1) (r2 : Rep C H d2 y f2) (hd : gInK d1 d2 = some d) : ∃ a o, y = .ref a ∧ DGet H a x o ∧ d = .bl o.isSome := by
  unfold gInK at hd
  split at hd
  · rename_i ks ds
    obtain ⟨k, hk, rfl⟩ := Option.map_eq_some_iff.mp hd
    obtain ⟨a, kvs, f, rfl, ek, _, rd, _⟩ := r2
    refine ⟨a, valV kvs k, rfl, .inl ⟨kvs, k, rd, keyD_rep hk r1, rfl⟩, ?_⟩
    rw [← valV_any, key_any, ek]
  · cases hd
theorem pr_inK : Pr2 C rInK gInK := by
  intro H x y d1 d2 d f1 f2 Q r1 r2 hd q
  obtain ⟨a, o, rfl, g, rfl⟩ := inK_core r1 r2 hd
  exact ⟨a, o, rfl, g, q (.bl o.isSome) rfl ⟨rfl, rfl⟩⟩
theorem pr_notInK : Pr2 C rNotInK gNotInK := by
  intro H x y d1 d2 d f1 f2 Q r1 r2 hd q
  unfold gNotInK at hd
  obtain ⟨z, hz, hn⟩ := Option.bind_eq_some_iff.mp hd
  obtain ⟨a, o, rfl, g, rfl⟩ := inK_core r1 r2 hz
  cases hn
  exact ⟨a, o, rfl, g, q (.bl (!o.isSome)) rfl ⟨rfl, rfl⟩⟩
theorem reps_flat_rf : ∀ {ds : List D} {vs : List V} {f : List Addr}, flats ds = true → Reps C H ds vs f → Reps RF H ds vs []
  | [], _, _, _, h => ⟨h.1, rfl⟩
  | d :: ds, _, _, fl, h => by
    obtain ⟨v, vs', f1, f2, rfl, _, r1, r2⟩ := h
    simp only [flats, Bool.and_eq_true] at fl
    exact ⟨v, vs', [], [], rfl, rfl, rep_flat_rf fl.1 r1, reps_flat_rf fl.2 r2⟩
/-- a new dict -/
theorem Pst.newK {p : Addr} {ks : List Key} {ds : List D} {kvs : List (Key × V)} (p1 : Pst C L P σ ev O S H [] ev1 [] τ O1 S1 H1) (hk : kvs.map (·.1) = ks) (r : Reps RF H1 ds (kvs.map (·.2)) []) (hp : H1 p = none) :
    ∃ O', Pst C L P σ ev O S H [(Md.dp, .dct ks ds)] ev1 [.ref p] τ O' S1 (upd H1 p (.dK kvs)) := by
  obtain ⟨ol, e, nd, m⟩ := p1.good.ex
  have hO : ∀ a, O1 a → a ≠ p := fun a h e => (p1.good.trk a h).ne (by rw [e]; exact hp)
  have hS : ∀ a, S1 a ∨ L a → a ≠ p := fun a h e => p1.good.lv a h (by rw [e]; exact hp)
  have gE : Ents C (upd H1 p (.dK kvs)) S1 L (ents ev1 τ) ol := by
    have go : Go (fun _ => False) S1 H1 (fun _ => False) S1 (upd H1 p (.dK kvs)) := Go.laid hp
    exact e.go go (fun _ z => z.elim) (fun _ _ z => z) (fun _ z => z.elim)
  have rr : Reps RF (upd H1 p (.dK kvs)) ds (kvs.map (·.2)) [] := r.kp (upd_kp hp (by simp))
  refine ⟨fun a => a ∈ [p] ++ ol, p1.fit, p1.lk, rfl, by simp, ⟨⟨[p] ++ ol, ⟨[p], ol, rfl, ⟨⟨p, kvs, [], rfl, hk, rr, .inl upd_same, rfl⟩, fun a h => ?_⟩, gE⟩, ?_, fun a => Iff.rfl⟩, fun a h => ?_, p1.good.sl, fun a h => ?_, (p1.good.laid hp).tab⟩, ?_⟩
  · rw [List.mem_singleton.mp h]; exact .inr ⟨_, upd_same⟩
  · refine List.nodup_append.mpr ⟨by simp, nd, fun a h1 b h2 z => ?_⟩
    exact hO b ((m b).mp h2) (by rw [← z, List.mem_singleton.mp h1])
  · rcases List.mem_append.mp h with h | h
    · have z := List.mem_singleton.mp h
      exact ⟨fun q => hS a (.inl q) z, fun q => hS a (.inr q) z⟩
    · exact p1.good.os a ((m a).mp h)
  · rw [upd_ne (hS a h)]; exact p1.good.lv a h
  · refine p1.go.trans ⟨(Go.laid (O := O1) (S := S1) hp).keep, (Go.laid (O := O1) (S := S1) hp).code, (Go.laid (O := O1) (S := S1) hp).live, fun a h => ?_, fun _ h => h, fun _ h => .inl h⟩
    rcases List.mem_append.mp h with h | h
    · exact .inr (by rw [List.mem_singleton.mp h]; exact hp)
    · exact .inl ((m a).mp h)
theorem e_dnew : PE X (.Dict [] [] pos) (tE C mg W dnewM) := pe_weak pe_dnewK fun σ H Q => by
  rintro ⟨ev, O, S, L, ft, gd, k⟩
  intro p hp
  obtain ⟨O', p4⟩ := (Pst.refl (P := fun _ => True) ft gd).newK (ks := []) (ds := []) (kvs := []) rfl ⟨rfl, rfl⟩ hp
  exact k _ _ _ _ p4
def rDcp : List V → Hp → VK → Prop := fun vs H Q => ∃ a kvs, vs = [.ref a] ∧ Rd H a (.dK kvs) ∧ ∀ p, H p = none → Q (.ref p) (upd H p (.dK kvs))
theorem cr_dcp : CallR X (.type "dict") rDcp := by
  intro pins s σ H vs us Q I r h
  obtain ⟨a, kvs, rfl, rd, q⟩ := h
  rw [Vals.ref1 r]
  exact d_copyOf I rd fun p s' hp I' => ⟨.ref p, _, I', rfl, q p hp⟩
theorem e_dcp {h : Ev → Option Pv} {x : Str} {p : Pos} (hg : Gl X x) (hm : X.mg x = none) (hv : bootBuiltins x = some (.type "dict")) (ha : PE X e (tP C h)) (hn : x ≠ "__name__" := by decide) (hdb : (x == ("__debug__" : Str)) = false := by decide)
    (he : starEach [e] X.env = (false, eval e X.env) :: starEach [] X.env := by rfl) (hpl : (backTo pos (starEach [] X.env)).any (·.1) = false := by rfl) : PE X (.Call (.Name x p) [e] [] pos) (tE C mg W (dcpM h)) :=
  pe_weak (pe_callTy cr_dcp hg hm hv (pa_cons ha pa_nil he) hn hdb he hpl) fun σ H Q => by
  rintro ⟨ev, O, S, L, ft, gd, k⟩
  unfold dcpM at k
  split at k
  · rename_i pv hp
    split at k
    · rename_i ks ds ed
      split at k
      · rename_i fl
        refine ⟨ev, O, S, L, ft, gd, pv, hp, fun v hv => ?_⟩
        obtain ⟨fp, r⟩ := pv_rep hv
        rw [ed] at r
        obtain ⟨a, kvs, f1, rfl, ek, rs, rd, _⟩ := r
        refine ⟨a, kvs, rfl, rd, fun q hq => ?_⟩
        obtain ⟨O', p4⟩ := (Pst.refl (P := fun _ => True) ft gd).newK ek (reps_flat_rf fl rs) hq
        exact k _ _ _ _ p4
      · exact k.elim
    · exact k.elim
  · exact k.elim
open Classical in
theorem reps_put {k : Key} {d : D} {v : V} (rv : Rep C H d v []) : ∀ {ds : List D} {kvs : List (Key × V)}, Reps C H ds (kvs.map (·.2)) [] →
    Reps C H (List.zipWith (fun k' d' => if k' = k then d else d') (kvs.map (·.1)) ds) ((kvs.map fun kv => if kv.1 = k then (kv.1, v) else kv).map (·.2)) []
  | [], [], _ => ⟨rfl, rfl⟩
  | [], _ :: _, h => by have := h.1; simp at this
  | d0 :: ds, [], h => by obtain ⟨_, _, _, _, e, _⟩ := h; simp at e
  | d0 :: ds, (k0, v0) :: kvs, h => by
    obtain ⟨w, ws, f1, f2, e, ef, r1, r2⟩ := h
    simp only [List.map_cons, List.cons.injEq] at e
    obtain ⟨rfl, rfl⟩ := e
    obtain ⟨rfl, rfl⟩ := List.append_eq_nil_iff.mp ef.symm
    have ih := reps_put (k := k) rv r2
    by_cases z : k0 = k
    · subst z
      exact ⟨v, _, [], [], by simp, rfl, by simpa using rv, ih⟩
    · exact ⟨v0, _, [], [], by simp [z], rfl, by simpa [z] using r1, ih⟩
theorem put_reps {k : Key} {d : D} {v : V} {ds : List D} {kvs : List (Key × V)} (rv : Rep C H d v []) (rs : Reps C H ds (kvs.map (·.2)) []) (fd : flat d = true) (fl : flats ds = true) :
    ∃ ks' ds', putD (kvs.map (·.1)) ds k d = .dct ks' ds' ∧ (putK kvs k v).map (·.1) = ks' ∧ Reps C H ds' ((putK kvs k v).map (·.2)) [] := by
  unfold putD putK
  rw [key_any]
  by_cases z : k ∈ kvs.map (·.1)
  · rw [if_pos z, if_pos (by simpa using z)]
    refine ⟨_, _, rfl, ?_, reps_put rv rs⟩
    rw [List.map_map]
    refine List.map_congr_left fun kv _ => ?_
    dsimp only [Function.comp]
    split <;> rfl
  · rw [if_neg z, if_neg (by simpa using z)]
    refine ⟨_, _, rfl, by simp, ?_⟩
    rw [List.map_append]
    exact rs.append (show Reps C H [d] [v] [] from ⟨v, [], [], [], rfl, rfl, rv, rfl, rfl⟩)
theorem Good.putDct {v0 : V} {ks : List Key} {ds : List D} (g : Good C H O S L ((v0, (Md.dp, .dct ks ds)) :: es)) (fl : flats ds = true) :
    ∃ a kvs, v0 = .ref a ∧ kvs.map (·.1) = ks ∧ H a = some (.dK kvs) ∧ Reps RF H ds (kvs.map (·.2)) [] ∧
      ∀ ks' ds' (kvs' : List (Key × V)), kvs'.map (·.1) = ks' → Reps RF H ds' (kvs'.map (·.2)) [] → ∃ O', Good C (upd H a (.dK kvs')) O' S L ((v0, (Md.dp, .dct ks' ds')) :: es) ∧ Go O S H O' S (upd H a (.dK kvs')) := by
  obtain ⟨OX, OE, gX, gE, m, d⟩ := Good.parts (es := [(v0, (Md.dp, .dct ks ds))]) (fs := es) g
  obtain ⟨ol, ⟨o1, o2, rfl, ⟨r0, tk⟩, ho2⟩, nd, mX⟩ := gX.ex
  obtain rfl : o2 = [] := ho2
  obtain ⟨a, kvs, f1, rfl, ek, rs, rd, rfl⟩ := r0
  obtain rfl := reps_flat fl rs
  have hH : H a = some (.dK kvs) := by
    rcases rd with rd | ⟨o, rd⟩
    · exact rd
    · rcases tk a (by simp) with ⟨xs, q⟩ | ⟨xs, q⟩ <;> (rw [q] at rd; cases rd)
  have ta : Trk H a := tk a (by simp)
  have oa : OX a := (mX a).mp (by simp)
  refine ⟨a, kvs, rfl, ek, hH, rs, fun ks' ds' kvs' e1 r' => ?_⟩
  have go : Go OX S H OX S (upd H a (.dK kvs')) := Go.wr oa ta
  have g' : Good C (upd H a (.dK kvs')) OX S L [(.ref a, (Md.dp, .dct ks' ds'))] :=
    ⟨⟨[a], ⟨[a], [], rfl, ⟨⟨a, kvs', [], rfl, e1, r'.kp (kp_upd (by simp) ta), .inl upd_same, rfl⟩, fun b h => by rw [List.mem_singleton.mp h]; exact .inr ⟨_, upd_same⟩⟩, rfl⟩, by simp, fun b => by rw [← mX b]; simp⟩, gX.os, gX.sl, fun b h => go.live b (gX.lv b h), go.tab gX.trk gX.tab⟩
  obtain ⟨G, gg2⟩ := gX.frame gE d g' go
  exact ⟨_, G, ⟨fun b o h n => gg2.keep b o h fun z => n ((m b).mpr z), gg2.code, gg2.live, fun b h => (gg2.newO b h).imp (m b).mpr id, gg2.monS, fun b h => (gg2.newS b h).imp id fun z => z.imp (m b).mpr id⟩⟩
theorem s_dput {i : Nat} {f : Ev → Rs MD} {h : Ev → Option Pv} {x : Str} {p1 : Pos} (hu : X.A.units + 1 < cLine) (he : PE X e (tE C mg W f)) (hv : PE X (.Name x p1) (tVar i)) (hi : PE X b (tP C h))
    (ha : ∀ v, assign (.Subscript (.Name x p1) b p2) X.env v = (do
      let ov ← holding [v] (eval (.Name x p1) X.env)
      let iv ← holding [v, ov] (eval b X.env)
      standAt p2
      holding [v, ov, iv] (setItem ov iv v)
      release [v, ov, iv] []) := by intro _; rfl)
    (hs : swapsWithSole [.Subscript (.Name x p1) b p2] e pos.line X.env = pure false := by rfl) (hw : swappedStores [.Subscript (.Name x p1) b p2] e X.env = pure none := by rfl)
    (h1 : (assignEach [.Subscript (.Name x p1) b p2] X.env).map (·.2) = [assign (.Subscript (.Name x p1) b p2) X.env] := by rfl) : PS X (.Assign [.Subscript (.Name x p1) b p2] e pos) (tS C mg P W (dputS i f h)) :=
  ps_weak (ps_asg he (pg_sub hv hi (set_dict hu) ha) hs hw h1) fun D σ H => by
  rintro ⟨ev, O, S, L, ft, gd, k⟩
  refine ⟨ev, O, S, L, ft, gd, aftS_bind k fun r ev1 k1 v H1 O1 S1 p => ?_⟩
  obtain ⟨OE, g1, nx⟩ := p.next
  unfold dputK at k1
  split at k1
  · rename_i pv ks ds hp he1
    split at k1
    · rename_i k hk
      split at k1
      · rename_i hc
        obtain ⟨fd, fl, hz⟩ := hc
        obtain ⟨v0, e1, _, _⟩ := fit_get p.fit he1
        refine ⟨v0, e1, ev1, OE, S1, L, p.fit, g1, pv, hp, fun y hy => ?_⟩
        obtain ⟨fy, ry⟩ := pv_rep hy
        obtain ⟨fv, rv⟩ : ∃ fv, Rep C H1 r.2 v fv := (good_ent p.good).elim fun _ h => h.rep
        have rv0 := rep_flat_rf fd rv
        obtain ⟨v0', e1', pp, f0⟩ := fit_get p.fit he1
        rw [e1] at e1'
        cases e1'
        have ilt : i < ev1.length := (List.getElem?_eq_some_iff.mp he1).1
        obtain ⟨O2, p2⟩ := p.drop
        have G : Good C H1 O2 S1 L ((v0, (Md.dp, .dct ks ds)) :: ents (ev1.set i none) σ) := p2.good.perm pp
        obtain ⟨a, kvs, rfl, ek, hH, rs, nxt⟩ := G.putDct fl
        subst ek
        obtain ⟨ks', ds', e3, e4, r4⟩ := put_reps (k := k) rv0 rs fd fl
        obtain ⟨O', g5, go5⟩ := nxt ks' ds' _ e4 r4
        have hkv := keyD_rep hk ry
        refine ⟨a, _, rfl, .inl ⟨kvs, k, hH, hkv, by simpa using hz, rfl⟩, ?_⟩
        obtain ⟨pq, fq⟩ := fit_put (md := (Md.dp, .dct ks' ds')) p2.fit ilt e1
        have p6 : Pst C L P σ ev O S H [] (ev1.set i (some (Md.dp, .dct ks' ds'))) [] σ O' S1 (upd H1 a (.dK (putK kvs k v))) :=
          ⟨fq, ((p2.all (P := P)).lk).trans (LkS.put fun d z => by cases z), rfl, by simp, g5.perm pq.symm, p2.go.trans go5⟩
        rw [e3] at k1
        exact k1 σ O' S1 _ p6
      · exact k1.elim
    · exact k1.elim
  · exact k1.elim
end
@[simp] theorem x_dnewM {ev : Ev} : dnewM ev = .ok (.dp, .dct [] []) ev := rfl
@[simp] theorem x_dcpM {h : Ev → Option Pv} {ev : Ev} : dcpM h ev = (match h ev with
  | some pv => match pv.d with
    | .dct ks ds => if flats ds = true then .ok (.dp, .dct ks ds) ev else .no
    | _ => .no
  | none => .no) := rfl
@[simp] theorem x_dputS {i : Nat} {f : Ev → Rs MD} {h : Ev → Option Pv} {ev : Ev} : dputS i f h ev = bndS (f ev) (dputK i h) := rfl
open Classical in
@[simp] theorem x_gInK {d : D} {ks : List Key} {ds : List D} : gInK d (.dct ks ds) = (keyD d).map fun k => .bl (decide (k ∈ ks)) := rfl
@[simp] theorem x_gNotInK {d e : D} : gNotInK d e = (gInK d e).bind gNot := rfl
@[simp] theorem x_keyD {i : Int} : keyD (.int i) = some (.inl i) := rfl
end T6

namespace T6
open PySem PySem.Spec PyProof.Rows L2
variable [Tbl]
/-! ### a slot of ours, shared for the time of a piece whose answer is all ours -/
def noRt : Ev → Bool
  | [] => true
  | some (.rt, _) :: _ => false
  | _ :: ev => noRt ev
open Classical in
noncomputable def borK (i : Nat) (d0 : D) (ev : Ev) (x : Rs MD) : Rs MD := match x with
  | .ok r ev2 => if ev2 = ev.set i (some (.sh, d0)) ∧ r.1 = .dp ∧ noRt ev = true then .ok r ev else .no
  | _ => .no
noncomputable def borS (i : Nat) (k : Ev → Rs MD) : Ev → Rs MD := fun ev => match ev[i]? with
  | some (some (.sh, _)) => k ev
  | some (some (.dp, d0)) => borK i d0 ev (k (ev.set i (some (.sh, d0))))
  | _ => .no
section
variable {K : PySem.W.Frag} {C : Cs} {mg : Str → Option Value} {X : Cx} {W : WX} {a b e : Expr} {H H' H1 H2 : Hp} {O O' O1 O2 S S' S1 S2 S3 L : Ps} {P P' : Nat → Prop} {σ τ : L2.St} {ev ev1 ev2 : Ev} {pos p2 : Pos} {rs rs1 rs2 : List MD} {vs vs1 vs2 : List V} {es : List En}
theorem ents_nort : ∀ {ev : Ev} {σ : L2.St}, noRt ev = true → ∀ e ∈ ents ev σ, e.2.1 ≠ Md.rt
  | [], _, _, e, h => by simp [ents] at h
  | none :: ev, [], _, e, h => by simp [ents] at h
  | none :: ev, s :: σ, n, e, h => ents_nort (ev := ev) (σ := σ) n e h
  | some md :: ev, [], _, e, h => by simp [ents] at h
  | some (m, d) :: ev, none :: σ, n, e, h => by
    cases m with
    | rt => cases n
    | _ => exact ents_nort (ev := ev) (σ := σ) n e h
  | some (m, d) :: ev, some v :: σ, n, e, h => by
    cases m with
    | rt => cases n
    | _ =>
      rcases List.mem_cons.mp h with rfl | h
      · intro z; cases z
      · exact ents_nort (ev := ev) (σ := σ) n e h
theorem ents_up (h : ∀ a, S a → S' a) : ∀ {l : List En} {o : List Addr}, Ents C H S L l o → Ents C H S' L l o := by
  intro l
  induction l with
  | nil => intro o h; exact h
  | cons y l ih =>
    rintro o ⟨p1, p2, rfl, h1, h2⟩
    refine ⟨p1, p2, rfl, ?_, ih h2⟩
    obtain ⟨v, m, d⟩ := y
    cases m
    · obtain ⟨e, fp, r, k⟩ := h1; exact ⟨e, fp, r, fun a ha => h a (k a ha)⟩
    · obtain ⟨a, f1, e1, e2, q, k⟩ := h1; exact ⟨a, f1, e1, e2, fun b hb => h b (q b hb), k⟩
    · exact h1
    · obtain ⟨e, fp, r, k⟩ := h1; exact ⟨e, fp, r, fun a ha => (k a ha).imp id (h a)⟩
/-- what was shared before and is still there -/
theorem ents_back (go : Go O S H O' S3 H') (t : ∀ a, O a → Trk H a) (ns : ∀ a, O a → ¬ S a ∧ ¬ L a) : ∀ {l : List En} {o o' : List Addr}, (∀ e ∈ l, e.2.1 ≠ Md.rt) → Ents C H S L l o → Ents C H' S2 L l o' → Ents C H' S3 L l o'
  | [], _, _, _, _, h => h
  | e :: l, _, _, n, ⟨o1, o2, e1, h1, h2⟩, ⟨p1, p2, e2, k1, k2⟩ => by
    refine ⟨p1, p2, e2, ?_, ents_back go t ns (fun x hx => n x (List.mem_cons_of_mem _ hx)) h2 k2⟩
    obtain ⟨v, m, d⟩ := e
    have nr := n (v, m, d) List.mem_cons_self
    cases m
    · have z1 : o1 = [] := h1.1
      have z2 : p1 = [] := k1.1
      subst z1 z2
      exact h1.go go t (fun a ha => nomatch ha) ns
    · exact absurd rfl nr
    · exact k1
    · have z1 : o1 = [] := h1.1
      have z2 : p1 = [] := k1.1
      subst z1 z2
      exact h1.go go t (fun a ha => nomatch ha) ns
theorem borS_weak {i : Nat} {k : Ev → Rs MD} : ∀ σ H Q, tE C mg W (borS i k) σ H Q → tE C mg W k σ H Q := fun σ H Q => by
  rintro ⟨ev, O, S, L, ft, gd, af⟩
  unfold borS at af
  split at af
  · exact ⟨ev, O, S, L, ft, gd, af⟩
  · rename_i d0 he
    obtain ⟨v0, e1, pm, f0⟩ := fit_get ft he
    have ilt : i < ev.length := (List.getElem?_eq_some_iff.mp he).1
    obtain ⟨pq, fq⟩ := fit_put (md := (Md.sh, d0)) ft ilt e1
    obtain ⟨OX, OE, gX, gE, m, d⟩ := Good.parts (es := [(v0, (Md.dp, d0))]) (fs := ents (ev.set i none) σ) (gd.perm pm)
    obtain ⟨ol, ⟨o1, o2, rfl, ⟨r0, tk⟩, ho2⟩, nd, mX⟩ := gX.ex
    obtain rfl : o2 = [] := ho2
    rw [List.append_nil] at nd mX
    obtain ⟨oE, eE, ndE, mE⟩ := gE.ex
    have good : Good C H OE (fun a => S a ∨ OX a) L (ents (ev.set i (some (Md.sh, d0))) σ) := by
      refine Good.perm (es := (v0, (Md.sh, d0)) :: ents (ev.set i none) σ) ⟨⟨oE, ⟨[], oE, rfl, ⟨rfl, o1, r0.mono, fun a ha => .inr ((mX a).mp ha)⟩, ents_up (fun a h => .inl h) eE⟩, ndE, mE⟩, fun a h => ⟨fun z => z.elim (gE.os a h).1 fun z => d a z h, (gE.os a h).2⟩, fun a z => z.elim (gE.sl a) fun z => (gX.os a z).2, fun a z => ?_, gE.tab⟩ pq.symm
      rcases z with (z | z) | z
      · exact gE.lv a (.inl z)
      · exact (gX.trk a z).ne
      · exact gE.lv a (.inr z)
    refine ⟨_, OE, _, L, fq, good, ?_⟩
    cases hk : k (ev.set i (some (Md.sh, d0))) with
    | ex c q ev2 => rw [hk] at af; exact af.elim
    | no => rw [hk] at af; exact af.elim
    | ok r ev2 =>
      rw [hk] at af
      unfold borK at af
      dsimp only at af
      split at af
      · rename_i hc
        obtain ⟨rfl, hr, hn⟩ := hc
        intro v H' O2 S2 p
        have p2 : Good C H' O2 S2 L ((v, r) :: (v0, (Md.sh, d0)) :: ents (ev.set i none) σ) := p.good.perm (pq.cons _)
        have hX2 : ∀ a, OX a → S2 a := fun a h => p.go.monS a (.inr h)
        have nX2 : ∀ a, OX a → ¬ O2 a := fun a h z => (p2.os a z).1 (hX2 a h)
        have go : Go OE S H O2 (fun a => S2 a ∧ ¬ OX a) H' :=
          ⟨p.go.keep, p.go.code, p.go.live, p.go.newO, fun a h => ⟨p.go.monS a (.inl h), fun z => (gX.os a z).1 h⟩, fun a h => by
            rcases p.go.newS a h.1 with (z | z) | z
            · exact .inl z
            · exact absurd z h.2
            · exact .inr z⟩
        obtain ⟨ol2, ⟨oR, o', rfl, hR, ⟨oS, oR2, rfl, hS, hE⟩⟩, nd2, m2⟩ := p2.ex
        have zS : oS = [] := hS.1
        subst zS
        rw [List.nil_append] at nd2 m2
        have nr : ∀ e ∈ ents (ev.set i none) σ, e.2.1 ≠ Md.rt := fun e h => ents_nort hn e (pm.symm.subset (List.mem_cons_of_mem _ h))
        have hE3 : Ents C H' (fun a => S2 a ∧ ¬ OX a) L (ents (ev.set i none) σ) oR2 := ents_back go gE.trk gE.os nr eE hE
        have kp : Kp o1 H H' := go.kp gE.trk (fun a ha => d a ((mX a).mp ha)) (rep_lv r0)
        obtain ⟨m', d'⟩ := r
        have hr : m' = .dp := hr
        subst hr
        have hR : Ent C H' S2 L (v, (Md.dp, d')) oR := hR
        refine af v H' (fun a => O2 a ∨ OX a) (fun a => S2 a ∧ ¬ OX a) ⟨ft, LkS.refl _ _, rfl, by simp, ?_, ?_⟩
        · refine Good.perm (es := (v, (Md.dp, d')) :: (v0, (Md.dp, d0)) :: ents (ev.set i none) σ) ⟨⟨oR ++ (o1 ++ oR2), ⟨oR, o1 ++ oR2, rfl, hR, ⟨o1, oR2, rfl, ⟨r0.kp kp, fun a ha => ?_⟩, hE3⟩⟩, ?_, fun a => ?_⟩, fun a h => ?_, fun a h => p2.sl a h.1, fun a h => p2.lv a (h.imp And.left id), p2.tab⟩ (pm.symm.cons _)
          · have e := kp.own a ha
            rcases tk a ha with ⟨xs, q⟩ | ⟨xs, q⟩
            · exact .inl ⟨xs, by rw [e]; exact q⟩
            · exact .inr ⟨xs, by rw [e]; exact q⟩
          · have hp : (oR ++ (o1 ++ oR2)).Perm (o1 ++ (oR ++ oR2)) := by
              rw [← List.append_assoc, ← List.append_assoc]
              exact List.perm_append_comm.append_right _
            refine hp.nodup_iff.mpr (List.nodup_append.mpr ⟨nd, nd2, fun a ha b hb e => ?_⟩)
            subst e
            exact nX2 a ((mX a).mp ha) ((m2 a).mp hb)
          · rw [List.mem_append, List.mem_append]
            have := m2 a
            rw [List.mem_append] at this
            rw [← this, ← mX a]
            constructor
            · rintro (h | h | h)
              · exact .inl (.inl h)
              · exact .inr h
              · exact .inl (.inr h)
            · rintro ((h | h) | h)
              · exact .inl h
              · exact .inr (.inr h)
              · exact .inr (.inl h)
          · rcases h with h | h
            · exact ⟨fun z => (p2.os a h).1 z.1, (p2.os a h).2⟩
            · exact ⟨fun z => z.2 h, (gX.os a h).2⟩
        · refine ⟨fun a o h n => go.keep a o h fun z => n ((m a).mpr (.inr z)), go.code, go.live, fun a h => ?_, go.monS, fun a h => (go.newS a h).imp id fun z => z.imp (fun z => (m a).mpr (.inr z)) id⟩
          rcases h with h | h
          · exact (go.newO a h).imp (fun z => (m a).mpr (.inr z)) id
          · exact .inl ((m a).mpr (.inl h))
      · exact af.elim
  · exact af.elim
theorem r_bor {i : Nat} {k : Ev → Rs MD} (he : PE X e (tE C mg W k)) : PE X e (tE C mg W (borS i k)) := pe_weak he borS_weak
end
@[simp] theorem x_borK {i : Nat} {d0 : D} {ev ev2 : Ev} {r : MD} : borK i d0 ev (.ok r ev2) = if ev2 = ev.set i (some (.sh, d0)) ∧ r.1 = .dp ∧ noRt ev = true then .ok r ev else .no := by
  unfold borK
  dsimp only
@[simp] theorem x_borS {i : Nat} {k : Ev → Rs MD} {ev : Ev} : borS i k ev = (match ev[i]? with
  | some (some (.sh, _)) => k ev
  | some (some (.dp, d0)) => borK i d0 ev (k (ev.set i (some (.sh, d0))))
  | _ => .no) := rfl
@[simp] theorem noRt_0 : noRt [] = true := rfl
@[simp] theorem noRt_n {ev : Ev} : noRt (none :: ev) = noRt ev := rfl
@[simp] theorem noRt_d {ev : Ev} {d : D} : noRt (some (.dp, d) :: ev) = noRt ev := rfl
@[simp] theorem noRt_s {ev : Ev} {d : D} : noRt (some (.sh, d) :: ev) = noRt ev := rfl
@[simp] theorem noRt_l {ev : Ev} {d : D} : noRt (some (.lk, d) :: ev) = noRt ev := rfl
end T6

namespace T6
open PySem PySem.Spec PyProof.Rows L2
variable [Tbl]
/-! ### sorted of a list that is given away: what is ours stays ours -/
noncomputable def srtMO (i : Nat) : Ev → Rs MD := fun ev => match ev[i]? with
  | some (some (.dp, .lst es)) => match gSortD (.lst es) with
    | some ds => .ok (.dp, .lst ds) (ev.set i none)
    | none => .no
  | _ => .no
section
variable {K : PySem.W.Frag} {C : Cs} {mg : Str → Option Value} {X : Cx} {W : WX} {a b e : Expr} {H H' H1 H2 : Hp} {O O' O1 O2 S S' S1 S2 S3 L : Ps} {P P' : Nat → Prop} {σ τ : L2.St} {ev ev1 ev2 : Ev} {pos p2 : Pos} {rs rs1 rs2 : List MD} {vs vs1 vs2 : List V} {es : List En}
theorem reps_perm {ps qs : List (V × D)} (p : ps.Perm qs) : ∀ {f : List Addr}, Reps C H (ps.map Prod.snd) (ps.map Prod.fst) f → ∃ g, f.Perm g ∧ Reps C H (qs.map Prod.snd) (qs.map Prod.fst) g := by
  induction p with
  | nil => exact fun {f} h => ⟨f, .refl _, h⟩
  | cons x _ ih =>
    intro f h
    obtain ⟨v, vs, f1, f2, e, rfl, r1, r2⟩ := h
    simp only [List.map_cons, List.cons.injEq] at e
    obtain ⟨rfl, rfl⟩ := e
    obtain ⟨g, pg, rg⟩ := ih r2
    exact ⟨f1 ++ g, pg.append_left _, _, _, f1, g, rfl, rfl, r1, rg⟩
  | swap x y l =>
    intro f h
    obtain ⟨v, vs, f1, f2, e, rfl, r1, r2⟩ := h
    simp only [List.map_cons, List.cons.injEq] at e
    obtain ⟨rfl, rfl⟩ := e
    obtain ⟨w, ws, g1, g2, e, rfl, q1, q2⟩ := r2
    simp only [List.cons.injEq] at e
    obtain ⟨rfl, rfl⟩ := e
    refine ⟨g1 ++ (f1 ++ g2), ?_, _, _, g1, f1 ++ g2, rfl, rfl, q1, _, _, f1, g2, rfl, rfl, r1, q2⟩
    rw [← List.append_assoc, ← List.append_assoc]
    exact List.perm_append_comm.append_right _
  | trans _ _ ih1 ih2 =>
    intro f h
    obtain ⟨g, p1, r1⟩ := ih1 h
    obtain ⟨g', p2, r2⟩ := ih2 r1
    exact ⟨g', p1.trans p2, r2⟩
theorem ents_kids : ∀ {ds : List D} {xs : List V} {f : List Addr}, Reps RF H ds xs f → (∀ a ∈ f, Trk H a) → Ents C H S L (xs.zip (ds.map fun d => (Md.dp, d))) f
  | [], xs, f, h, _ => by
    obtain ⟨rfl, rfl⟩ : xs = [] ∧ f = [] := h
    rfl
  | d :: ds, xs, f, h, t => by
    obtain ⟨v, vs, f1, f2, rfl, rfl, r1, r2⟩ := h
    exact ⟨f1, f2, rfl, ⟨r1, fun a ha => t a (List.mem_append_left _ ha)⟩, ents_kids r2 fun a ha => t a (List.mem_append_right _ ha)⟩
theorem e_srtMO {i : Nat} {x : Str} {p1 q : Pos} (hu : X.A.units + 65 < cLine) (hg : Gl X "sorted") (hm : X.mg "sorted" = none) (ha : PE X (.Name x q) (tVar i))
    (he : starEach [.Name x q] X.env = (false, eval (.Name x q) X.env) :: starEach [] X.env := by rfl) (hpl : (backTo pos (starEach [] X.env)).any (·.1) = false := by rfl) :
    PE X (.Call (.Name "sorted" p1) [.Name x q] [] pos) (tE (KL X.K) mg W (srtMO i)) :=
  pe_weak (pe_callB (cr_sortedD hu) hg hm boot_sorted (pa_cons ha pa_nil he) (by decide) (by decide) he hpl) fun σ H Q => by
  rintro ⟨ev, O, S, L, ft, gd, k⟩
  unfold srtMO at k
  split at k
  · rename_i es he
    split at k
    · rename_i ds hd
      obtain ⟨v0, e1, pm, f0⟩ := fit_get ft he
      refine ⟨v0, e1, ?_⟩
      obtain ⟨ol, ⟨o1, o2, rfl, ⟨r0, tk⟩, hE⟩, nd, m⟩ := (gd.perm pm).ex
      obtain ⟨a, xs, f1, rfl, rr, sq | ⟨sq, _⟩⟩ := r0
      rotate_left
      · exact sq.elim
      obtain ⟨rd, rfl⟩ := sq
      unfold gSortD at hd
      dsimp only at hd
      split at hd
      · rename_i hc
        obtain ⟨c1, c2, c3, c4⟩ := hc
        cases hd
        refine ⟨a, xs, toPys es, rfl, .inl rd, reps_dp c1 (Reps.mono rr), c2, c3, c4, fun p hp => ?_⟩
        have z2 := (reps_zip rr).2
        have z1 : (xs.zip es).map Prod.fst = xs := List.map_fst_zip (by rw [rr.length]; exact Nat.le_refl _)
        have e1 : xs.zip (toPys es) = (xs.zip es).map (fun p => (p.1, toPy p.2)) := by
          rw [toPys_map, List.zip_map_right]
          rfl
        have e2 : ((xs.zip es).mergeSort (fun p q => leD p.2 q.2)).map (fun p => (p.1, toPy p.2)) = ((xs.zip es).map (fun p => (p.1, toPy p.2))).mergeSort (PySem.W.dataLe false Prod.snd) :=
          List.map_mergeSort fun _ _ _ _ => rfl
        have e3 : ((xs.zip es).mergeSort (fun p q => leD p.2 q.2)).map Prod.snd = ((xs.zip es).map Prod.snd).mergeSort leD := List.map_mergeSort fun _ _ _ _ => rfl
        obtain ⟨g, pg, rg⟩ := reps_perm (List.mergeSort_perm (xs.zip es) (fun p q => leD p.2 q.2)).symm (f := f1) (by rw [z1, z2]; exact rr)
        rw [e1, ← e2, List.map_map]
        rw [e3, z2] at rg
        have eX : (((xs.zip es).mergeSort (fun p q => leD p.2 q.2)).map (Prod.fst ∘ fun p => (p.1, toPy p.2))) = ((xs.zip es).mergeSort (fun p q => leD p.2 q.2)).map Prod.fst := rfl
        rw [eX]
        generalize ((xs.zip es).mergeSort (fun p q => leD p.2 q.2)).map Prod.fst = ys at *
        generalize es.mergeSort leD = ds at *
        have tg : ∀ b ∈ g, Trk H b := fun b hb => tk b (List.mem_cons_of_mem _ (pg.mem_iff.mpr hb))
        have hp2 : (g ++ o2).Perm (f1 ++ o2) := (pg.symm).append_right _
        have sub : (f1 ++ o2).Sublist (a :: f1 ++ o2) := List.Sublist.cons a (List.Sublist.refl _)
        have G : Good (KL X.K) H (fun b => b ∈ g ++ o2) S L (ys.zip (ds.map fun d => (Md.dp, d)) ++ ents (ev.set i none) σ) :=
          ⟨⟨g ++ o2, (ents_kids rg tg).append hE, hp2.nodup_iff.mpr (sub.nodup nd), fun _ => Iff.rfl⟩, fun b hb => gd.os b ((m b).mp (sub.subset (hp2.mem_iff.mp hb))), gd.sl, gd.lv, gd.tab⟩
        have nl : ∀ r ∈ ds.map (fun d => (Md.dp, d)), r.1 ≠ Md.lk := fun r hr => by
          obtain ⟨d, _, rfl⟩ := List.mem_map.mp hr
          intro z
          cases z
        have P1 : Pst (KL X.K) L (fun _ => True) σ ev O S H (ds.map fun d => (Md.dp, d)) (ev.set i none) ys σ (fun b => b ∈ g ++ o2) S H :=
          ⟨f0, .put fun d z => (nomatch z), by rw [List.length_map]; exact rg.length, nl, G, ⟨fun _ _ h _ => .inl h, fun _ h => h, fun _ h => h, fun b hb => .inl ((m b).mp (sub.subset (hp2.mem_iff.mp hb))), fun _ h => h, fun _ h => .inl h⟩⟩
        obtain ⟨O', p4⟩ := (P1.newD (by unfold allD; rw [List.all_map, List.all_eq_true]; intro d _; rfl) hp).1
        rw [List.map_map] at p4
        have ed : ds.map ((fun r : MD => r.2) ∘ fun d => (Md.dp, d)) = ds := by
          have : ((fun r : MD => r.2) ∘ fun d => (Md.dp, d)) = id := rfl
          rw [this, List.map_id]
        rw [ed] at p4
        exact k _ _ _ _ p4
      · cases hd
    · exact k.elim
  · exact k.elim
end
@[simp] theorem x_srtMO {i : Nat} {ev : Ev} : srtMO i ev = (match ev[i]? with
  | some (some (.dp, .lst es)) => match gSortD (.lst es) with
    | some ds => .ok (.dp, .lst ds) (ev.set i none)
    | none => .no
  | _ => .no) := rfl
end T6

namespace T6
open PySem PySem.Spec PyProof.Rows L2
variable [Tbl]
/-! ### append at a path -/
open Classical in
noncomputable def appPK (i : Nat) (ks : List Nat) (d0 : D) (ev : Ev) (x : Rs MD) : Rs MD := match x with
  | .ok r ev2 => if ev2 = ev.set i (some (.lk, d0)) then match mutG appU i ks r ev with
      | some ev3 => .ok (.dp, .non) ev3
      | none => .no
    else .no
  | _ => .no
noncomputable def appPE (i : Nat) (p : Ev → Option (List Nat)) (f : Ev → Rs MD) : Ev → Rs MD := fun ev => match p ev, ev[i]? with
  | some ks, some (some (.dp, d0)) => appPK i ks d0 ev (f (ev.set i (some (.lk, d0))))
  | _, _ => .no
section
variable {K : PySem.W.Frag} {C : Cs} {mg : Str → Option Value} {X : Cx} {W : WX} {a b e : Expr} {H H' H1 H2 : Hp} {O O' O1 O2 S S' S1 S2 S3 L L3 : Ps} {P P' : Nat → Prop} {σ τ : L2.St} {ev ev1 ev2 : Ev} {pos p2 : Pos} {rs rs1 rs2 : List MD} {vs vs1 vs2 : List V} {es : List En}
theorem ents_backL (go : Go O S H O' S3 H') (t : ∀ a, O a → Trk H a) (ns : ∀ a, O a → ¬ S a ∧ ¬ L a) : ∀ {l : List En} {o o' : List Addr}, Ents C H S L l o → Ents C H' S3 L3 l o' → Ents C H' S3 L l o'
  | [], _, _, _, h => h
  | e :: l, _, _, ⟨o1, o2, e1, h1, h2⟩, ⟨p1, p2, e2, k1, k2⟩ => by
    refine ⟨p1, p2, e2, ?_, ents_backL go t ns h2 k2⟩
    obtain ⟨v, m, d⟩ := e
    cases m
    · exact k1
    · exact k1
    · exact k1
    · have z1 : o1 = [] := h1.1
      have z2 : p1 = [] := k1.1
      subst z1 z2
      exact h1.go go t (fun a ha => nomatch ha) ns
theorem At.kp {d0 d : D} {v0 v : V} {ks : List Nat} (h : At H d0 v0 ks d v) : ∀ {f0 : List Addr}, Rep RF H d0 v0 f0 → (∀ a ∈ f0, Trk H a) → Kp f0 H H' → At H' d0 v0 ks d v := by
  induction h with
  | nil => exact fun _ _ _ => .nil
  | lst hH h1 h2 _ ih =>
    intro f0 r tk kp
    obtain ⟨a', vs', fc, e2, rr, q | ⟨q, _⟩⟩ := r
    rotate_left
    · exact q.elim
    cases e2
    obtain ⟨q, rfl⟩ := q
    have := lst_rd q (tk _ List.mem_cons_self)
    rw [hH] at this
    cases this
    obtain ⟨w, f, e3, r3, s3⟩ := rr.get h1
    rw [h2] at e3
    cases e3
    exact .lst (by rw [kp.own _ List.mem_cons_self]; exact hH) h1 h2 (ih r3 (fun b hb => tk b (List.mem_cons_of_mem _ (s3 b hb))) (kp.sub fun b hb => List.mem_cons_of_mem _ (s3 b hb)))
  | tup hH h1 h2 _ ih =>
    intro f0 r tk kp
    obtain ⟨a', vs', e2, q, rr⟩ := r
    cases e2
    have := rdt_uniq hH q
    subst this
    obtain ⟨w, f, e3, r3, s3⟩ := rr.get h1
    rw [h2] at e3
    cases e3
    exact .tup (kp.rdt hH) h1 h2 (ih r3 (fun b hb => tk b (s3 b hb)) (kp.sub s3))
theorem e_appP {i : Nat} {p : Ev → Option (List Nat)} {f : Ev → Rs MD} {o : Expr} {apos : Pos} (hv : PE X o (tPth (KL X.K) i p)) (he : PE X e (tE (KL X.K) mg W f))
    (hbase : attributeBase o "append" X.env (eval o X.env) = eval o X.env := by rfl)
    (hfew : ((backTo pos (starEach [e] X.env)).all (fun x => !x.1) && (backToKw pos (keywordEach [] X.env)).all (fun x => x.1.isSome)
      && decide ([e].length + ([] : List Keyword).length + (if ([] : List Keyword).isEmpty then 0 else 1) < 30)) = true := by rfl)
    (hline : (apos.endLine == pos.line) = true := by rfl) (hs : starEach [e] X.env = (false, eval e X.env) :: starEach [] X.env := by rfl) (hplain : (backTo pos (starEach [] X.env)).any (·.1) = false := by rfl) :
    PE X (.Call (.Attribute o "append" apos) [e] [] pos) (tE (KL X.K) mg W (appPE i p f)) :=
  pe_weak (pe_bm PySem.F.plainAttrs_list PySem.F.slot_list_append PySem.F.type_list_append mt_append hv (pa_cons he pa_nil hs) hbase hfew hline hs hplain) fun σ H Q => by
  rintro ⟨ev, O, S, L, ft, gd, k⟩
  unfold appPE at k
  split at k
  · rename_i ks d0 hp he
    obtain ⟨v0, e1, pm, f0⟩ := fit_get ft he
    have ilt : i < ev.length := (List.getElem?_eq_some_iff.mp he).1
    obtain ⟨pq, fq⟩ := fit_put (md := (Md.lk, d0)) ft ilt e1
    cases hf : f (ev.set i (some (Md.lk, d0))) with
    | ex c q ev2 => rw [hf] at k; exact k.elim
    | no => rw [hf] at k; exact k.elim
    | ok r ev2 =>
      rw [hf] at k
      unfold appPK at k
      dsimp only at k
      split at k
      · rename_i hc
        subst hc
        split at k
        · rename_i ev3 e7
          obtain ⟨m', d0', ds, he', hg, hk⟩ := mutG_inv e7
          rw [he] at he'
          cases he'
          refine ⟨ev, O, S, L, ft, gd, .dp, d0, ks, _, he, hp, hg, hk, fun v0' t hv hat => ⟨pth_ty ft gd he hg hk hv hat, ?_⟩⟩
          rw [e1] at hv
          cases hv
          obtain ⟨OX, OE, gX, gE, m, d⟩ := Good.parts (es := [(v0, (Md.dp, d0))]) (fs := ents (ev.set i none) σ) (gd.perm pm)
          obtain ⟨ol, ⟨o1, o2, rfl, ⟨r0, tk⟩, ho2⟩, nd, mX⟩ := gX.ex
          obtain rfl : o2 = [] := ho2
          rw [List.append_nil] at nd mX
          obtain ⟨oE, eE, ndE, mE⟩ := gE.ex
          have upL : ∀ {l : List En} {o : List Addr}, Ents (KL X.K) H S L l o → Ents (KL X.K) H S (fun a => L a ∨ OX a) l o := by
            intro l
            induction l with
            | nil => intro o h; exact h
            | cons y l ih =>
              rintro o ⟨p1, p2, rfl, h1, h2⟩
              refine ⟨p1, p2, rfl, ?_, ih h2⟩
              obtain ⟨v, m, d⟩ := y
              cases m
              · exact h1
              · exact h1
              · exact h1
              · obtain ⟨e, fp, r, k⟩ := h1; exact ⟨e, fp, r, fun a ha => (k a ha).imp .inl id⟩
          have good : Good (KL X.K) H OE S (fun a => L a ∨ OX a) (ents (ev.set i (some (Md.lk, d0))) σ) := by
            refine Good.perm (es := (v0, (Md.lk, d0)) :: ents (ev.set i none) σ) ⟨⟨oE, ⟨[], oE, rfl, ⟨rfl, o1, r0.mono, fun a ha => .inl (.inr ((mX a).mp ha))⟩, upL eE⟩, ndE, mE⟩, fun a h => ⟨(gE.os a h).1, fun z => z.elim (gE.os a h).2 fun z => d a z h⟩, fun a z => fun y => y.elim (gE.sl a z) fun y => (gX.os a y).1 z, fun a z => ?_, gE.tab⟩ pq.symm
            rcases z with z | z | z
            · exact gE.lv a (.inl z)
            · exact gE.lv a (.inr z)
            · exact (gX.trk a z).ne
          refine ⟨_, OE, S, _, fq, good, ?_⟩
          rw [hf]
          intro v H1 O2 S2 p
          have p2 : Good (KL X.K) H1 O2 S2 (fun a => L a ∨ OX a) ((v, r) :: (v0, (Md.lk, d0)) :: ents (ev.set i none) σ) := p.good.perm (pq.cons _)
          have nX2 : ∀ a, OX a → ¬ O2 a := fun a h z => (p2.os a z).2 (.inr h)
          obtain ⟨ol2, ⟨oR, o', rfl, hR, ⟨oS, oR2, rfl, hS, hE⟩⟩, nd2, m2⟩ := p2.ex
          have zS : oS = [] := hS.1
          subst zS
          rw [List.nil_append] at nd2 m2
          have hE3 : Ents (KL X.K) H1 S2 L (ents (ev.set i none) σ) oR2 := ents_backL p.go gE.trk gE.os eE hE
          have kp : Kp o1 H H1 := p.go.kp gE.trk (fun a ha => d a ((mX a).mp ha)) (rep_lv r0)
          have nl := p.nl r (by simp)
          have hR3 : Ent (KL X.K) H1 S2 L (v, r) oR := by
            obtain ⟨m', d'⟩ := r
            cases m'
            · exact hR
            · exact hR
            · exact hR
            · exact absurd rfl nl
          have p3 : Pst (KL X.K) L (fun _ => True) σ ev O S H [r] ev [v] σ (fun a => O2 a ∨ OX a) S2 H1 := by
            refine ⟨ft, LkS.refl _ _, rfl, p.nl, ?_, ?_⟩
            · refine Good.perm (es := (v, r) :: (v0, (Md.dp, d0)) :: ents (ev.set i none) σ) ⟨⟨oR ++ (o1 ++ oR2), ⟨oR, o1 ++ oR2, rfl, hR3, ⟨o1, oR2, rfl, ⟨r0.kp kp, fun a ha => ?_⟩, hE3⟩⟩, ?_, fun a => ?_⟩, fun a h => ?_, fun a h z => p2.sl a h (.inl z), fun a h => p2.lv a (h.imp id .inl), p2.tab⟩ (pm.symm.cons _)
              · have e := kp.own a ha
                rcases tk a ha with ⟨xs, q⟩ | ⟨xs, q⟩
                · exact .inl ⟨xs, by rw [e]; exact q⟩
                · exact .inr ⟨xs, by rw [e]; exact q⟩
              · have hp : (oR ++ (o1 ++ oR2)).Perm (o1 ++ (oR ++ oR2)) := by
                  rw [← List.append_assoc, ← List.append_assoc]
                  exact List.perm_append_comm.append_right _
                refine hp.nodup_iff.mpr (List.nodup_append.mpr ⟨nd, nd2, fun a ha b hb e => ?_⟩)
                subst e
                exact nX2 a ((mX a).mp ha) ((m2 a).mp hb)
              · rw [List.mem_append, List.mem_append]
                have := m2 a
                rw [List.mem_append] at this
                rw [← this, ← mX a]
                constructor
                · rintro (h | h | h)
                  · exact .inl (.inl h)
                  · exact .inr h
                  · exact .inl (.inr h)
                · rintro ((h | h) | h)
                  · exact .inl h
                  · exact .inr (.inr h)
                  · exact .inr (.inl h)
              · rcases h with h | h
                · exact ⟨(p2.os a h).1, fun z => (p2.os a h).2 (.inl z)⟩
                · exact ⟨fun z => p2.sl a z (.inr h), (gX.os a h).2⟩
            · refine ⟨fun a o h n => p.go.keep a o h fun z => n ((m a).mpr (.inr z)), p.go.code, p.go.live, fun a h => ?_, p.go.monS, fun a h => (p.go.newS a h).imp id fun z => z.imp (fun z => (m a).mpr (.inr z)) id⟩
              rcases h with h | h
              · exact (p.go.newO a h).imp (fun z => (m a).mpr (.inr z)) id
              · exact .inl ((m a).mpr (.inl h))
          obtain ⟨q, us, ds2, eq, ed, hq, hl, ⟨ds', hu⟩, O', S', p4⟩ := mut_ok app_mut p3 e1 he hg (hat.kp r0 tk kp) e7
          subst eq
          cases ed
          unfold appU at hu
          split at hu
          · rename_i hz
            refine ⟨_, us, v, rfl, rfl, hq, by rw [hl]; exact hz, ?_⟩
            obtain ⟨O4, p5⟩ := p4.flat (d := .non) (v := .non) (f := []) rfl ⟨rfl, rfl⟩
            exact k _ _ _ _ p5
          · cases hu
        · exact k.elim
      · exact k.elim
  · exact k.elim
end
@[simp] theorem x_appPK {i : Nat} {ks : List Nat} {d0 : D} {ev ev2 : Ev} {r : MD} : appPK i ks d0 ev (.ok r ev2) = if ev2 = ev.set i (some (.lk, d0)) then (match mutG appU i ks r ev with
      | some ev3 => .ok (.dp, .non) ev3
      | none => .no)
    else .no := by
  unfold appPK
  dsimp only
@[simp] theorem x_appPE {i : Nat} {p : Ev → Option (List Nat)} {f : Ev → Rs MD} {ev : Ev} : appPE i p f ev = (match p ev, ev[i]? with
  | some ks, some (some (.dp, d0)) => appPK i ks d0 ev (f (ev.set i (some (.lk, d0))))
  | _, _ => .no) := rfl
end T6

namespace T6
open PySem PySem.Spec PyProof.Rows L2
variable [Tbl]
/-! ### list(x[e]), of plain things, e a piece that does things -/
def lixK (i : Nat) (r : MD) (ev1 : Ev) : Rs MD := match ev1[i]?, r.2 with
  | some (some (_, .lst ds)), .int j => match atI ds j with
    | some (.lst es) => if flats es = true then .ok (.dp, .lst es) ev1 else .no
    | _ => .no
  | _, _ => .no
def lixM (i : Nat) (h : Ev → Rs MD) : Ev → Rs MD := fun ev => match ev[i]? with
  | some (some _) => (h ev).bind (lixK i)
  | _ => .no
section
variable {K : PySem.W.Frag} {C : Cs} {mg : Str → Option Value} {X : Cx} {W : WX} {a b e : Expr} {H H' H1 H2 : Hp} {O O' O1 O2 S S' S1 S2 S3 L : Ps} {P P' : Nat → Prop} {σ τ : L2.St} {ev ev1 ev2 : Ev} {pos p2 : Pos} {rs rs1 rs2 : List MD} {vs vs1 vs2 : List V} {es : List En}
theorem e_lix {i : Nat} {h : Ev → Rs MD} {p q : Pos} (hg : Gl X "list") (hm : X.mg "list" = none) (ha : PE X a (tVar i)) (hb : PE X b (tE (KL X.K) mg W h)) (hs : PlainIx b)
    (he : starEach [.Subscript a b q] X.env = (false, eval (.Subscript a b q) X.env) :: starEach [] X.env := by rfl) (hpl : (backTo pos (starEach [] X.env)).any (·.1) = false := by rfl) :
    PE X (.Call (.Name "list" p) [.Subscript a b q] [] pos) (tE (KL X.K) mg W (lixM i h)) :=
  pe_weak (pe_callTy call_list_of hg hm PyProof.Rows.boot_list (pa_cons (pe_ix ix_seq ha hb hs) pa_nil he) (by decide) (by decide) he hpl) fun σ H Q => by
  rintro ⟨ev, O, S, L, ft, gd, k⟩
  unfold lixM at k
  split at k
  · rename_i md he0
    obtain ⟨v0, e1, _, _⟩ := fit_get ft he0
    refine ⟨v0, e1, ev, O, S, L, ft, gd, aft_bind k fun r ev1 k1 v H1 O1 S1 p => ?_⟩
    obtain ⟨rr, dr⟩ := r
    unfold lixK at k1
    split at k1
    · rename_i m ds j he1 ej
      have ej : dr = .int j := ej
      subst ej
      split at k1
      · rename_i es hz
        split at k1
        · rename_i fl
          obtain ⟨fv, rv⟩ : ∃ fv, Rep (KL X.K) H1 (.int j) v fv := (good_ent p.good).elim fun _ h => h.rep
          obtain ⟨O2, p2⟩ := p.drop
          obtain ⟨v0', own, e2, hent⟩ := slot_ent p2.fit p2.good he1
          rw [e1] at e2
          cases e2
          obtain ⟨f0, r0⟩ := hent.rep
          obtain ⟨c, xs, f1, rfl, rr, q0⟩ := r0
          obtain ⟨j', hj, g2⟩ := atI_len rr.length hz
          obtain ⟨w, f', hw, rw, _⟩ := rr.get hj
          obtain ⟨c2, ys, f2, rfl, rr2, q2⟩ := rw
          refine .inl ⟨c, xs, j, .ref c2, rfl, rep_int rv, sq_of q0, g2 _ hw, c2, ys, rfl, .inl (sq_of q2), fun l hl => ?_⟩
          obtain ⟨r4, k4, p4⟩ := newL_ok (s := true) (ds := es) p2 (reps_flat0 fl rr2) (by simp) (show Aft (KL X.K) mg σ ev O S L H W (newL true _ ev1) _ by unfold newL; rw [if_pos fl]; exact k1)
          obtain ⟨O5, S5, p5⟩ := p4 l hl
          exact k4 _ _ _ _ p5
        · exact k1.elim
      · exact k1.elim
    · exact k1.elim
  · exact k.elim
end
@[simp] theorem x_lixM {i : Nat} {h : Ev → Rs MD} {ev : Ev} : lixM i h ev = (match ev[i]? with
  | some (some _) => (h ev).bind (lixK i)
  | _ => .no) := rfl
@[simp] theorem x_lixK {i : Nat} {m : Md} {j : Int} {ev1 : Ev} : lixK i (m, .int j) ev1 = (match ev1[i]? with
  | some (some (_, .lst ds)) => match atI ds j with
    | some (.lst es) => if flats es = true then .ok (.dp, .lst es) ev1 else .no
    | _ => .no
  | _ => .no) := by
  unfold lixK
  cases ev1[i]? with
  | none => rfl
  | some s => cases s with
    | none => rfl
    | some md => obtain ⟨m', d⟩ := md; cases d <;> rfl
end T6

namespace T6
open PySem PySem.Spec PyProof.Rows L2
variable [Tbl]
/-! ### append at a path of what is drawn (the other slots may change) -/
section
variable {C : Cs} {mg : Str → Option Value} {H H' H1 H2 : Hp} {O O' O1 O2 S S' S1 S2 L L' : Ps} {P : Nat → Prop} {σ τ : L2.St} {ev ev1 ev2 : Ev} {rs rs1 rs2 : List MD} {vs vs1 vs2 : List V}
/-- a slot of ours is lent out and given back: what it holds is kept -/
theorem lock_okD {i : Nat} {d0 : D} (ft : Fit ev σ) (gd : Good C H O S L (ents ev σ)) (e : ev[i]? = some (some (Md.dp, d0))) :
    ∃ OE L', Fit (ev.set i (some (.lk, d0))) σ ∧ Good C H OE S L' (ents (ev.set i (some (.lk, d0))) σ) ∧ (∀ a, L a → L' a) ∧
      ∀ P rs ev2 vs τ O2 S2 H2, P i → Pst C L' P σ (ev.set i (some (.lk, d0))) OE S H rs ev2 vs τ O2 S2 H2 → (∃ d', ev2[i]? = some (some (.lk, d'))) →
        (∀ j, ¬ P j → ∀ d, ev2[j]? = some (some (.lk, d)) → flat d = true) → (∃ O', Pst C L P σ ev O S H rs (ev2.set i (some (Md.dp, d0))) vs τ O' S2 H2) ∧ ∃ v o1, σ[i]? = some (some v) ∧ Rep RF H d0 v o1 ∧ (∀ a ∈ o1, Trk H a) ∧ Kp o1 H H2 := by
  have hm : Md.dp ≠ Md.lk := by simp
  obtain ⟨v, e1, pm, f0⟩ := fit_get ft e
  have il : i < ev.length := (List.getElem?_eq_some_iff.mp e).1
  have gp := gd.perm pm
  obtain ⟨ol, ⟨o1, o2, rfl, h1, h2⟩, nd, mm⟩ := gp.ex
  have nd' := List.nodup_append.mp nd
  have t1 : ∀ a ∈ o1, Trk H a := h1.trk
  have m1 : ∀ a ∈ o1, O a := fun a h => (mm a).mp (List.mem_append_left _ h)
  obtain ⟨pl, fl⟩ := fit_put (md := (Md.lk, d0)) ft il e1
  -- its reading
  have lentR : ∃ fp, Rep C H d0 v fp ∧ ∀ a ∈ fp, a ∈ o1 ∨ S a := by
    exact ⟨o1, h1.1.mono, fun a ha => .inl ha⟩
  refine ⟨(· ∈ o2), fun a => L a ∨ a ∈ o1, fl, ?_, fun a h => .inl h, fun P rs ev2 vs τ O2 S2 H2 pi p lk' fl' => ?_⟩
  · refine Good.perm (es := (v, (Md.lk, d0)) :: ents (ev.set i none) σ) ?_ ?_
    · refine ⟨⟨o2, ⟨[], o2, rfl, ⟨rfl, ?_⟩, h2.lmono fun a h => .inl h⟩, nd'.2.1, fun _ => Iff.rfl⟩, fun a h => ⟨(gp.os a ((mm a).mp (List.mem_append_right _ h))).1, fun z => z.elim (gp.os a ((mm a).mp (List.mem_append_right _ h))).2 fun z => nd'.2.2 a z a h rfl⟩,
        fun a h z => z.elim (gp.sl a h) fun z => (gp.os a (m1 a z)).1 h, fun a h => ?_, gp.tab⟩
      · obtain ⟨fp, r, s⟩ := lentR
        exact ⟨fp, r, fun a ha => (s a ha).imp .inr id⟩
      · rcases h with h | h | h
        · exact gp.lv a (.inl h)
        · exact gp.lv a (.inr h)
        · exact (t1 a h).ne
    · exact pl.symm
  · -- behind
    obtain ⟨d', lk'⟩ := lk'
    obtain ⟨v', e1', pm', f0'⟩ := fit_get p.fit lk'
    have ev' : v' = v := by
      have := (p.lk i pi).1
      rw [e1', e1] at this
      cases this; rfl
    subst ev'
    have il' : i < ev2.length := (List.getElem?_eq_some_iff.mp lk').1
    obtain ⟨pl', fl2⟩ := fit_put (md := (Md.dp, d0)) p.fit il' e1'
    have g2 : Good C H2 O2 S2 (fun a => L a ∨ a ∈ o1) ((v', (Md.lk, d')) :: (vs.zip rs ++ ents (ev2.set i none) τ)) := by
      refine p.good.perm ?_
      refine (pm'.append_left _).trans ?_
      exact List.perm_middle
    obtain ⟨O3, g3, le3⟩ := Good.drop (es := [(v', (Md.lk, d'))]) g2
    have trk2 : ∀ a, a ∈ o2 → Trk H a := h2.trk
    have go := p.go
    have ns : ∀ a, a ∈ o2 → ¬ S a ∧ ¬ L a := fun a h => gp.os a ((mm a).mp (List.mem_append_right _ h))
    have n1 : ∀ a ∈ o1, ¬ a ∈ o2 := fun a h z => nd'.2.2 a h a z rfl
    -- what is lent behind, by the old word
    have old : ∀ x ∈ vs.zip rs ++ ents (ev2.set i none) τ, x.2.1 = Md.lk → ∃ fp, Rep C H2 x.2.2 x.1 fp ∧ ∀ a ∈ fp, L a ∨ S2 a := by
      intro x hx hl
      rcases List.mem_append.mp hx with hx | hx
      · exact absurd hl (p.nl x.2 (List.of_mem_zip hx).2)
      · obtain ⟨j, q1, q2⟩ := mem_ents hx
        have ij : i ≠ j := fun z => by
          subst z
          rw [List.getElem?_set_self il'] at q1; cases q1
        rw [List.getElem?_set_ne ij] at q1
        obtain ⟨w, mx, dx⟩ := x
        have hl : mx = Md.lk := hl
        subst hl
        by_cases pj : P j
        · obtain ⟨s1, s2⟩ := p.lk j pj
          have s3 := s2 dx q1
          rw [List.getElem?_set_ne ij] at s3
          have s4 : σ[j]? = some (some w) := by rw [← s1]; exact q2
          obtain ⟨w', own, s5, en⟩ := slot_ent ft gd s3
          rw [s4] at s5
          cases s5
          obtain ⟨_, fp, r, s⟩ := en
          have hlv := rep_lv r
          refine ⟨fp, r.kp (go.kp trk2 (fun a ha z => (s a ha).elim (ns a z).2 (ns a z).1) hlv), fun a ha => (s a ha).imp id (go.monS a)⟩
        · have fx := fl' j pj dx q1
          obtain ⟨ol3, e3, _⟩ := g3.ex
          obtain ⟨own, _, fp, r, _⟩ := ents_mem e3 _ (List.mem_append_right _ hx)
          exact ⟨[], rep_flat0 fx r, by simp⟩
    obtain ⟨ol3, e3, nd3, mm3⟩ := g3.ex
    have e4 := e3.relent old
    have en1 : Ent C H2 S2 L (v', (Md.dp, d0)) o1 := h1.go go trk2 (fun a ha => n1 a ha) ns
    have new1 : ∀ a, O3 a → a ∈ o2 ∨ H a = none := fun a h => go.newO a (le3 a h)
    have d13 : ∀ a ∈ o1, ¬ O3 a := fun a h z => (new1 a z).elim (n1 a h) (t1 a h).ne
    have s13 : ∀ a ∈ o1, ¬ S2 a := fun a h z => by
      rcases go.newS a z with z | z | z
      · exact (gp.os a (m1 a h)).1 z
      · exact n1 a h z
      · exact (t1 a h).ne z
    refine ⟨⟨fun a => a ∈ o1 ∨ O3 a, fl2, ?_, p.len, p.nl, ?_, ?_⟩, _, o1, e1, h1.1, t1, go.kp trk2 (fun a ha => n1 a ha) (rep_lv h1.1)⟩
    · intro j pj
      obtain ⟨s1, s2⟩ := p.lk j pj
      refine ⟨s1, fun d q => ?_⟩
      by_cases ij : i = j
      · subst ij
        rw [List.getElem?_set_self il'] at q
        cases q
      · rw [List.getElem?_set_ne ij] at q
        have := s2 d q
        rwa [List.getElem?_set_ne ij] at this
    · refine Good.perm (es := (v', (Md.dp, d0)) :: (vs.zip rs ++ ents (ev2.set i none) τ)) ?_ ?_
      · refine ⟨⟨o1 ++ ol3, ⟨o1, ol3, rfl, en1, e4⟩, List.nodup_append.mpr ⟨nd'.1, nd3, fun a h b h' z => d13 a h (by rw [z]; exact (mm3 b).mp h')⟩, fun a => List.mem_append.trans (or_congr Iff.rfl (mm3 a))⟩, fun a h => ?_, fun a h z => g3.sl a h (.inl z), fun a h => ?_, g3.tab⟩
        · rcases h with h | h
          · exact ⟨s13 a h, (gp.os a (m1 a h)).2⟩
          · exact ⟨(g3.os a h).1, fun z => (g3.os a h).2 (.inl z)⟩
        · exact g3.lv a (h.imp id .inl)
      · refine List.perm_middle.symm.trans ?_
        exact (pl'.symm).append_left _
    · refine ⟨fun a o h n => go.keep a o h fun z => n ((mm a).mp (List.mem_append_right _ z)), go.code, go.live, fun a h => ?_, go.monS, fun a h => (go.newS a h).imp id fun z => z.imp (fun z => (mm a).mp (List.mem_append_right _ z)) id⟩
      rcases h with h | h
      · exact .inl (m1 a h)
      · exact (new1 a h).imp (fun z => (mm a).mp (List.mem_append_right _ z)) id
end
noncomputable def appQK (i : Nat) (ks : List Nat) (d0 : D) (x : Rs MD) : Rs MD := match x with
  | .ok r ev2 => match ev2[i]? with
    | some (some (.lk, _)) => match mutG appU i ks r (ev2.set i (some (.dp, d0))) with
      | some ev3 => .ok (.dp, .non) ev3
      | none => .no
    | _ => .no
  | _ => .no
noncomputable def appQE (i : Nat) (p : Ev → Option (List Nat)) (f : Ev → Rs MD) : Ev → Rs MD := fun ev => match p ev, ev[i]? with
  | some ks, some (some (.dp, d0)) => appQK i ks d0 (f (ev.set i (some (.lk, d0))))
  | _, _ => .no
section
variable {K : PySem.W.Frag} {C : Cs} {mg : Str → Option Value} {X : Cx} {W : WX} {a b e : Expr} {H H' H1 H2 : Hp} {O O' O1 O2 S S' S1 S2 S3 L L3 : Ps} {P P' : Nat → Prop} {σ τ : L2.St} {ev ev1 ev2 : Ev} {pos p2 : Pos} {rs rs1 rs2 : List MD} {vs vs1 vs2 : List V} {es : List En}
theorem e_appQ {i : Nat} {p : Ev → Option (List Nat)} {f : Ev → Rs MD} {o : Expr} {apos : Pos} (hv : PE X o (tPth (KL X.K) i p)) (he : PE X e (tE (KL X.K) mg W f))
    (hbase : attributeBase o "append" X.env (eval o X.env) = eval o X.env := by rfl)
    (hfew : ((backTo pos (starEach [e] X.env)).all (fun x => !x.1) && (backToKw pos (keywordEach [] X.env)).all (fun x => x.1.isSome)
      && decide ([e].length + ([] : List Keyword).length + (if ([] : List Keyword).isEmpty then 0 else 1) < 30)) = true := by rfl)
    (hline : (apos.endLine == pos.line) = true := by rfl) (hs : starEach [e] X.env = (false, eval e X.env) :: starEach [] X.env := by rfl) (hplain : (backTo pos (starEach [] X.env)).any (·.1) = false := by rfl) :
    PE X (.Call (.Attribute o "append" apos) [e] [] pos) (tE (KL X.K) mg W (appQE i p f)) :=
  pe_weak (pe_bm PySem.F.plainAttrs_list PySem.F.slot_list_append PySem.F.type_list_append mt_append hv (pa_cons he pa_nil hs) hbase hfew hline hs hplain) fun σ H Q => by
  rintro ⟨ev, O, S, L, ft, gd, k⟩
  unfold appQE at k
  split at k
  · rename_i ks d0 hp he
    obtain ⟨v0, e1, pm, f0⟩ := fit_get ft he
    cases hf : f (ev.set i (some (Md.lk, d0))) with
    | ex c q ev2 => rw [hf] at k; exact k.elim
    | no => rw [hf] at k; exact k.elim
    | ok r ev2 =>
      rw [hf] at k
      unfold appQK at k
      dsimp only at k
      split at k
      · rename_i d1 hl
        split at k
        · rename_i ev3 e7
          obtain ⟨m', d0', ds, he', hg, hk⟩ := mutG_inv e7
          have il2 : i < ev2.length := (List.getElem?_eq_some_iff.mp hl).1
          have he2 : (ev2.set i (some (Md.dp, d0)))[i]? = some (some (Md.dp, d0)) := List.getElem?_set_self il2
          rw [he2] at he'
          cases he'
          refine ⟨ev, O, S, L, ft, gd, .dp, d0, ks, _, he, hp, hg, hk, fun v0' t hv hat => ⟨pth_ty ft gd he hg hk hv hat, ?_⟩⟩
          obtain ⟨OE, L', f1, g1, _, nx⟩ := lock_okD ft gd he
          refine ⟨_, OE, S, L', f1, g1, ?_⟩
          rw [hf]
          intro v H1 O2 S2 p
          obtain ⟨⟨O3, p3⟩, w0, o1, hw, r0, tk, kp⟩ := nx (fun _ => True) [r] ev2 [v] σ O2 S2 H1 trivial p ⟨_, hl⟩ fun j hj => absurd trivial hj
          rw [hw] at hv
          cases hv
          obtain ⟨q, us, ds2, eq, ed, hq, hl2, ⟨ds', hu⟩, O', S', p4⟩ := mut_ok app_mut p3 hw he2 hg (hat.kp r0 tk kp) e7
          subst eq
          cases ed
          unfold appU at hu
          split at hu
          · rename_i hz
            refine ⟨_, us, v, rfl, rfl, hq, by rw [hl2]; exact hz, ?_⟩
            obtain ⟨O4, p5⟩ := p4.flat (d := .non) (v := .non) (f := []) rfl ⟨rfl, rfl⟩
            exact k _ _ _ _ p5
          · cases hu
        · exact k.elim
      · exact k.elim
  · exact k.elim
end
@[simp] theorem x_appQK {i : Nat} {ks : List Nat} {d0 : D} {ev2 : Ev} {r : MD} : appQK i ks d0 (.ok r ev2) = (match ev2[i]? with
    | some (some (.lk, _)) => (match mutG appU i ks r (ev2.set i (some (.dp, d0))) with
      | some ev3 => .ok (.dp, .non) ev3
      | none => .no)
    | _ => .no) := rfl
@[simp] theorem x_appQE {i : Nat} {p : Ev → Option (List Nat)} {f : Ev → Rs MD} {ev : Ev} : appQE i p f ev = (match p ev, ev[i]? with
  | some ks, some (some (.dp, d0)) => appQK i ks d0 (f (ev.set i (some (.lk, d0))))
  | _, _ => .no) := rfl
end T6

namespace HT
open PySem PySem.Spec PyProof.Rows
section
variable {prog : Program} {w : World} {A : Around} {E : Value → Shared → Prop} {s : Shared}
/-! ### t[::-1], t a tuple -/
theorem adjust_rev (n : Nat) : Builtin.Slice.sliceAdjust none none (-1) (n : Int) = ((n : Int) - 1, -1) := by
  unfold Builtin.Slice.sliceAdjust
  simp
theorem places_rev (n : Nat) : Builtin.Slice.slicePlaces ((n : Int) - 1) (-1) (-1) = n := by
  unfold Builtin.Slice.slicePlaces
  have h1 : ¬ ((-1 : Int) > 0) := by omega
  simp only [h1, if_false]
  split <;> simp <;> omega
theorem sliceApplied_rev {sl : Addr} {vl vu vs : Value} {n : Nat} {Q : Int × Int × Nat → Shared → Prop} (hs : s.heap.IsSliceOf sl vl vu vs) (pl : IsPart vl none) (pu : IsPart vu none) (ps : IsPart vs (some (-1)))
    (h : Q ((n : Int) - 1, -1, n) s) : wpAny (model prog w) A (Builtin.Slice.sliceApplied (.ref sl) (pure (n : Int))) Q E s := by
  obtain ⟨os, hos, hcs, hds⟩ := id hs
  unfold Builtin.Slice.sliceApplied Builtin.Slice.sliceFields
  refine wpAny_bind (wpAny_bind (wpAny_field hos hds (x := vl) rfl (wpAny_bind (wpAny_field hos hds (x := vu) rfl (wpAny_bind (wpAny_field hos hds (x := vs) rfl (wpAny_pure ?_)))))))
  refine wpAny_bind (slicePart_ ps ?_)
  show wpAny _ _ (if ((-1 : Int) == 0) = true then _ else _) _ _ s
  rw [if_neg (by decide)]
  refine wpAny_bind (slicePart_ pl (wpAny_bind (slicePart_ pu (wpAny_bind (wpAny_pure ?_)))))
  show wpAny _ _ (match Builtin.Slice.sliceAdjust none none (-1) (n : Int) with | (lo, hi) => pure (lo, (-1 : Int), Builtin.Slice.slicePlaces lo hi (-1))) _ _ s
  rw [adjust_rev n]
  show wpAny _ _ (pure ((n : Int) - 1, (-1 : Int), Builtin.Slice.slicePlaces ((n : Int) - 1) (-1) (-1))) _ _ s
  rw [places_rev]
  exact wpAny_pure h
theorem pick_rev (xs : Array Value) : ((List.range xs.size).filterMap fun (m : Nat) => xs[(((xs.size : Int) - 1) + (m : Int) * (-1)).toNat]?).toArray = xs.toList.reverse.toArray := by
  have e : (fun (m : Nat) => xs[(((xs.size : Int) - 1) + (m : Int) * (-1)).toNat]?) = (xs[·]?) ∘ fun m => xs.size - 1 - m := by
    funext m
    show xs[_]? = xs[_]?
    congr 1
    dsimp only
    omega
  rw [e, ← List.filterMap_map, PySem.W.krv_range, List.filterMap_reverse, PySem.W.krv_all]
theorem getItem_tuple_rev {t sl : Addr} {items : Array Value} {vl vu vs : Value} {Q : Value → Shared → Prop} (ht : IsTup s.heap t items) (hs : s.heap.IsSliceOf sl vl vu vs) (pl : IsPart vl none) (pu : IsPart vu none) (ps : IsPart vs (some (-1)))
    (h : Q (.ref s.heap.objs.size) { s with heap := s.heap.push { cls := .type "tuple", data := .seq items.toList.reverse.toArray } })
    (hsz : items.size ≤ sizeLine) : wpAny (model prog w) A (getItem (.ref t) (.ref sl)) Q E s := by
  have htake : sizeOk (.seq items.toList.reverse.toArray) := by
    show items.toList.reverse.toArray.size ≤ sizeLine
    rw [List.size_toArray, List.length_reverse, Array.length_toList]
    exact hsz
  obtain ⟨os, hos, hcs, hds⟩ := id hs
  have hTs : s.TypeIs (.ref sl) "slice" := ⟨os, hos, hcs⟩
  unfold getItem
  try with_reducible refine wpAny_holding ?_
  first | refine wpAny_bind (wpAny_pure ?_) | skip
  refine wpAny_bind (wpAny_sequenceKey ht.typeIs (by decide) ?_)
  refine wpAny_bind (wpAny_callSpecial?_slot (name := Str.ofString "__getitem__") ht.typeIs PyProof.Rows.slot_tuple_getitem
    (wpAny_call_entry PyProof.Rows.slot_tuple_getitem ht.typeIs PyProof.Rows.entry_tuple_getitem ?_ (PyProof.Rows.args_tuple_getitem _ _)))
  show wpAny _ _ (Builtin.Tuple.tupleItemsOf (.ref t) >>= _) _ _ s
  refine wpAny_bind (tupleItemsOf_ ht ?_)
  refine wpAny_bind (wpAny_typeOf hTs ?_)
  rw [if_pos (by decide)]
  refine wpAny_bind (sliceApplied_rev hs pl pu ps ?_)
  have hno : ¬ ((((items.size : Int) - 1) == 0 && (-1 : Int) == 1 && items.size == items.size) = true) := by simp
  show wpAny _ _ (if (((items.size : Int) - 1) == 0 && (-1 : Int) == 1 && items.size == items.size) = true then _ else _) _ _ s
  rw [if_neg hno, pick_rev]
  first
    | exact wpAny_bind (m := Builtin.Tuple.tupleExact _) (wpAny_newObj_type (wpAny_pure ⟨_, rfl, wpAny_pure h⟩) htake)
    | exact wpAny_bind (m := Builtin.Tuple.tupleExact _) (wpAny_newObj_type (wpAny_bind (wpAny_pure (wpAny_pure ⟨_, rfl, wpAny_pure h⟩))) htake)
    | exact wpAny_bind (wpAny_bind (m := Builtin.Tuple.tupleExact _) (wpAny_newObj_type (wpAny_pure (wpAny_pure ⟨_, rfl, wpAny_pure h⟩)) htake))
    | exact wpAny_bind (wpAny_bind (m := Builtin.Tuple.tupleExact _) (wpAny_newObj_type (wpAny_pure ⟨_, rfl, wpAny_pure h⟩) htake))
end
end HT
namespace T6
open PySem PySem.Spec PyProof.Rows L2
variable [Tbl]
section
variable {X : Cx}
/-- t[::-1] -/
def tRevT (K : PySem.W.Frag) (te : TE) : TE := fun σ H Q => te σ H fun x H1 => ∃ a xs, x = .ref a ∧ SqT K H1 a xs ∧ ∀ p, H1 p = none → Q (.ref p) (upd H1 p (.tup xs.reverse))
theorem pe_revT {e : Expr} {te : TE} {k : Nat} {p1 p2 p3 pos : Pos} (he : PE X e te) : PE X (.Subscript e (.Slice none none (some (.UnaryOp .USub (.Constant (.int 1) k p1) p2)) p3) pos) (tRevT X.K te) := by
  refine ⟨fun pins s σ H Q I h => ?_⟩
  refine Subscript_ (thn (he.run pins s σ H _ I h) fun v s1 ⟨x, H1, I1, r1, q1⟩ => ?_)
  obtain ⟨a, xs, ex, hx, q⟩ := q1
  subst ex
  cases r1
  have hst : PO X (some (.UnaryOp .USub (.Constant (.int 1) k p1) p2)) (tPart (tUn (rU fun i => .int (-i)) (tC (.int 1)))) := po_some (pe_un un_neg pe_int)
  refine wpAny_Slice (thn (po_none.run pins s1 σ H1 (fun o H2 => o = none ∧ H2 = H1) I1 ⟨rfl, rfl⟩) fun vl s2 ⟨l, H2, I2, pl, el, e2⟩ => ?_)
  subst el e2
  refine thn (po_none.run pins s2 σ H2 (fun o H3 => o = none ∧ H3 = H2) I2 ⟨rfl, rfl⟩) fun vu s3 ⟨u, H3, I3, pu, eu, e3⟩ => ?_
  subst eu e3
  refine thn (hst.run pins s3 σ H3 (fun o H4 => o = some (-1) ∧ H4 = H3) I3 ⟨1, rfl, -1, rfl, rfl, rfl⟩) fun vs s4 ⟨o, H4, I4, ps, eo, e4⟩ => ?_
  subst eo e4
  have I5 : Inv X pins σ H4 { s4 with heap := s4.heap.push { cls := .type "slice", data := .fields #[vl, vu, vs] } } := I4.kept (t' := s4.toks) fun b ob q => Heap.get?_push_of_some _ q
  obtain ⟨its, r, ht, hz⟩ := I5.tuple hx
  have hlen := r.length
  show wpAny (model X.prog X.w) X.A (subscriptTail e (.Slice none none (some (.UnaryOp .USub (.Constant (.int 1) k p1) p2)) p3) (.ref a) (.ref s4.heap.objs.size)) (EP X pins σ Q) X.xe { s4 with heap := s4.heap.push { cls := .type "slice", data := .fields #[vl, vu, vs] } }
  refine tail_any (ops := [.ref a, .ref s4.heap.objs.size]) ht.typeIs (PyProof.Rows.slot_tuple_getitem.lookup) ?_ (by with_unfolding_all rfl)
  refine HT.getItem_tuple_rev ht (Heap.IsSliceOf.new _ vl vu vs) pl pu ps ?_ (by rw [List.size_toArray]; omega)
  refine ⟨.ref _, _, I5.laid (t' := s4.toks) (o := .tup xs.reverse) (fun b ob q => Heap.get?_push_of_some _ q) (Nat.le_refl _) ?_, rfl, q _ (I5.hok.fresh (Nat.le_refl _))⟩
  exact ⟨by rw [List.length_reverse]; exact hz, _, r.reverse, IsTup.new _ _⟩
/-- xs[::k], k 1 or -1, xs a list -/
def tStpL (K : PySem.W.Frag) (te ts : TE) : TE := fun σ H Q => te σ H fun x H1 => ts σ H1 fun y H2 => ∃ a xs k, x = .ref a ∧ y = .int k ∧ SqL K H2 a xs ∧ (k = 1 ∧ (∀ p, H2 p = none → Q (.ref p) (upd H2 p (.lst xs))) ∨ k = -1 ∧ ∀ p, H2 p = none → Q (.ref p) (upd H2 p (.lst xs.reverse)))
theorem pick_same (xs : Array Value) : slicePick xs none none (some 1) = xs.toList.toArray := by
  unfold slicePick
  have e1 : sliceBounds none none (some 1) xs.size = (0, (xs.size : Int), 1) := rfl
  rw [e1]
  have e2 : sliceRange 0 (xs.size : Int) 1 = List.range xs.size := by
    unfold sliceRange
    have h1 : (1 : Int) > 0 := by decide
    by_cases h : (0 : Int) < (xs.size : Int)
    · simp only [h1, if_true, h]
      have e : (((xs.size : Int) - 0 + 1 - 1) / 1).toNat = xs.size := by rw [Int.ediv_one]; omega
      rw [e]
      conv => rhs; rw [← List.map_id (List.range xs.size)]
      refine List.map_congr_left fun k hk => ?_
      show (_ : Int).toNat = k
      omega
    · have e : xs.size = 0 := by omega
      rw [e]
      simp
  show ((sliceRange 0 (xs.size : Int) 1).filterMap (xs[·]?)).toArray = _
  rw [e2, PySem.W.krv_all]
theorem pe_stpL {e st : Expr} {te ts : TE} {p3 pos : Pos} (he : PE X e te) (hst : PE X st ts) : PE X (.Subscript e (.Slice none none (some st) p3) pos) (tStpL X.K te ts) := by
  refine ⟨fun pins s σ H Q I h => ?_⟩
  refine Subscript_ (thn (he.run pins s σ H _ I h) fun v s1 ⟨x, H1, I1, r1, q1⟩ => ?_)
  refine wpAny_Slice (thn (po_none.run pins s1 σ H1 (fun o H2 => o = none ∧ H2 = H1) I1 ⟨rfl, rfl⟩) fun vl s2 ⟨l, H2, I2, pl, el, e2⟩ => ?_)
  subst el e2
  refine thn (po_none.run pins s2 σ H2 (fun o H3 => o = none ∧ H3 = H2) I2 ⟨rfl, rfl⟩) fun vu s3 ⟨u, H3, I3, pu, eu, e3⟩ => ?_
  subst eu e3
  have hq : (tPart ts) σ H3 (fun o H4 => ∃ a xs k, x = .ref a ∧ o = some k ∧ SqL X.K H4 a xs ∧ (k = 1 ∧ (∀ p, H4 p = none → Q (.ref p) (upd H4 p (.lst xs))) ∨ k = -1 ∧ ∀ p, H4 p = none → Q (.ref p) (upd H4 p (.lst xs.reverse)))) := by
    show ts σ H3 _
    refine cast ?_ q1
    congr 1; funext y H4
    apply propext
    constructor
    · rintro ⟨a, xs, k, h1, h2, h3, h4⟩; exact ⟨k, h2, a, xs, k, h1, rfl, h3, h4⟩
    · rintro ⟨i, h0, a, xs, k, h1, h2, h3, h4⟩; cases h2; exact ⟨a, xs, i, h1, h0, h3, h4⟩
  refine thn ((po_some hst).run pins s3 σ H3 _ I3 hq) fun vs s4 ⟨o, H4, I4, ps, a, xs, k, ex, eo, hx, q⟩ => ?_
  subst ex eo
  cases r1
  have I5 : Inv X pins σ H4 { s4 with heap := s4.heap.push { cls := .type "slice", data := .fields #[vl, vu, vs] } } := I4.kept (t' := s4.toks) fun b ob q => Heap.get?_push_of_some _ q
  obtain ⟨its, r, ht, hz⟩ := I5.list hx
  have hlen := r.length
  show wpAny (model X.prog X.w) X.A (subscriptTail e (.Slice none none (some st) p3) (.ref a) (.ref s4.heap.objs.size)) (EP X pins σ Q) X.xe { s4 with heap := s4.heap.push { cls := .type "slice", data := .fields #[vl, vu, vs] } }
  refine tail_any (ops := [.ref a, .ref s4.heap.objs.size]) ht.isList.typeIs (PySem.slot_list_getitem.lookup) ?_ (by with_unfolding_all rfl)
  rcases q with ⟨rfl, q⟩ | ⟨rfl, q⟩
  · refine wpAny_getItem_list_slice ht.isList (Heap.IsSliceOf.new _ vl vu vs) pl pu ps (by decide) ?_ (by rw [List.size_toArray]; omega)
    rw [pick_same]
    refine ⟨.ref _, _, I5.laid (t' := s4.toks) (o := .lst xs) (fun b ob q => Heap.get?_push_of_some _ q) (Nat.le_refl _) ?_, rfl, q _ (I5.hok.fresh (Nat.le_refl _))⟩
    exact ⟨hz, _, 0, r, Heap.get?_push_size _ rfl⟩
  · refine wpAny_getItem_list_slice ht.isList (Heap.IsSliceOf.new _ vl vu vs) pl pu ps (by decide) ?_ (by rw [List.size_toArray]; omega)
    rw [PySem.W.krv_pick]
    refine ⟨.ref _, _, I5.laid (t' := s4.toks) (o := .lst xs.reverse) (fun b ob q => Heap.get?_push_of_some _ q) (Nat.le_refl _) ?_, rfl, q _ (I5.hok.fresh (Nat.le_refl _))⟩
    exact ⟨by rw [List.length_reverse]; exact hz, _, 0, r.reverse, Heap.get?_push_size _ rfl⟩
end
def kRevT : List Ag → Ev → Rs MD := fun as ev => match as with
  | [.vl s (.tup ds)] => newT s ds.reverse ev
  | _ => .no
def kStp : List Ag → Ev → Rs MD := fun as ev => match as with
  | [.vl s (.lst ds), .vl _ (.int k)] => if k = 1 then newL s ds ev else if k = -1 then newL s ds.reverse ev else .no
  | _ => .no
theorem k_revT {K : PySem.W.Frag} : KOk (KL K) (fun vs H Q => ∃ a ys, vs = [V.ref a] ∧ SqT K H a ys ∧ ∀ p, H p = none → Q (.ref p) (upd H p (.tup ys.reverse))) kRevT := fun mg W σ ev O S L H as vs tvs trs ev2 O2 S2 H2 Q p ar af => by
  unfold kRevT at af
  split at af
  · rename_i s ds
    obtain ⟨x, fp, rfl, rfl, rfl, r1, s1, t1⟩ := argR_vals1 ar
    obtain ⟨a, xs, rfl, sq, rr⟩ := r1
    obtain ⟨fq, r3, s3⟩ := reps_rev rr
    obtain ⟨r4, k4, p4, _⟩ := newT_ok p r3 (fun z c hc => t1 z c (s3 c hc)) af
    refine ⟨a, xs, rfl, .inl sq, fun q hq => ?_⟩
    obtain ⟨O5, S5, p5⟩ := p4 q hq
    exact k4 _ _ _ _ p5
  · exact af.elim
theorem k_stp {K : PySem.W.Frag} : KOk (KL K) (fun vs H Q => ∃ a xs k, vs = [V.ref a, .int k] ∧ SqL K H a xs ∧ (k = 1 ∧ (∀ p, H p = none → Q (.ref p) (upd H p (.lst xs))) ∨ k = -1 ∧ ∀ p, H p = none → Q (.ref p) (upd H p (.lst xs.reverse)))) kStp := fun mg W σ ev O S L H as vs tvs trs ev2 O2 S2 H2 Q p ar af => by
  unfold kStp at af
  split at af
  · rename_i s ds s' k
    obtain ⟨x, y, fp, fq, rfl, rfl, rfl, r1, r2, s1, _, t1, _⟩ := argR_vals2 ar
    rw [rp_int r2]
    obtain ⟨a, xs, f1, rfl, rr, sq⟩ := r1
    have m1 : ∀ c ∈ f1, c ∈ fp := fun c h => by rcases sq with ⟨_, e⟩ | ⟨_, e⟩ <;> rw [e] <;> first | exact List.mem_cons_of_mem _ h | exact h
    split at af
    · rename_i hk
      subst hk
      obtain ⟨r4, k4, p4⟩ := newL_ok p rr (fun z c hc => t1 z c (m1 c hc)) af
      refine ⟨a, xs, 1, rfl, sq_of sq, .inl ⟨rfl, fun q hq => ?_⟩⟩
      obtain ⟨O5, S5, p5⟩ := p4 q hq
      exact k4 _ _ _ _ p5
    · split at af
      · rename_i hk
        subst hk
        obtain ⟨fq2, r3, s3⟩ := reps_rev rr
        obtain ⟨r4, k4, p4⟩ := newL_ok p r3 (fun z c hc => t1 z c (m1 c (s3 c hc))) af
        refine ⟨a, xs, -1, rfl, sq_of sq, .inr ⟨rfl, fun q hq => ?_⟩⟩
        obtain ⟨O5, S5, p5⟩ := p4 q hq
        exact k4 _ _ _ _ p5
      · exact af.elim
  · exact af.elim
section
variable {K : PySem.W.Frag} {C : Cs} {mg : Str → Option Value} {X : Cx} {W : WX} {a b e : Expr} {es : List Expr} {H H' H1 H2 : Hp} {O O' O1 O2 S S' S1 S2 L : Ps} {P P' : Nat → Prop} {σ τ : L2.St} {ev ev1 ev2 : Ev} {pos p2 : Pos} {rs rs1 rs2 : List MD} {vs vs1 vs2 : List V}
theorem e_revT {kk : Nat} {q1 q2 q3 : Pos} (ha : PE X a t1) (w1 : OpdW (KL X.K) mg W t1 F1) : PE X (.Subscript a (.Slice none none (some (.UnaryOp .USub (.Constant (.int 1) kk q1) q2)) q3) pos) (tE (KL X.K) mg W (opA kRevT (F1 aNil))) :=
  pe_weak (pe_revT ha) fun σ H Q z => by
    have z := tcb_weak k_revT (aw_cons w1 aw_nil) σ H Q z
    refine cast ?_ z
    show t1 σ H (fun x H1 => ∃ a ys, [x] = [V.ref a] ∧ SqT X.K H1 a ys ∧ ∀ p, H1 p = none → Q (.ref p) (upd H1 p (.tup ys.reverse))) = t1 σ H fun x H1 => ∃ a xs, x = .ref a ∧ SqT X.K H1 a xs ∧ ∀ p, H1 p = none → Q (.ref p) (upd H1 p (.tup xs.reverse))
    congr 1; funext x H1
    apply propext
    constructor
    · rintro ⟨a, ys, e, q⟩; cases e; exact ⟨a, ys, rfl, q⟩
    · rintro ⟨a, ys, rfl, q⟩; exact ⟨a, ys, rfl, q⟩
theorem e_stp {q3 : Pos} (ha : PE X a t1) (w1 : OpdW (KL X.K) mg W t1 F1) (hb : PE X b t2) (w2 : OpdW (KL X.K) mg W t2 F2) : PE X (.Subscript a (.Slice none none (some b) q3) pos) (tE (KL X.K) mg W (opA kStp (F1 (F2 aNil)))) :=
  pe_weak (pe_stpL ha hb) fun σ H Q z => by
    have z := tcb_weak k_stp (aw_cons w1 (aw_cons w2 aw_nil)) σ H Q z
    refine cast ?_ z
    show t1 σ H (fun x H1 => t2 σ H1 fun y H2 => ∃ a xs k, [x, y] = [V.ref a, .int k] ∧ SqL X.K H2 a xs ∧ _) = t1 σ H fun x H1 => t2 σ H1 fun y H2 => ∃ a xs k, x = .ref a ∧ y = .int k ∧ SqL X.K H2 a xs ∧ _
    congr 1; funext x H1; congr 1; funext y H2
    apply propext
    constructor
    · rintro ⟨a, xs, k, e, q⟩; cases e; exact ⟨a, xs, k, rfl, rfl, q⟩
    · rintro ⟨a, xs, k, rfl, rfl, q⟩; exact ⟨a, xs, k, rfl, q⟩
end
@[simp] theorem x_revT {s : Bool} {ds : List D} {ev : Ev} : kRevT [.vl s (.tup ds)] ev = newT s ds.reverse ev := rfl
@[simp] theorem x_stp {s t : Bool} {ds : List D} {k : Int} {ev : Ev} : kStp [.vl s (.lst ds), .vl t (.int k)] ev = if k = 1 then newL s ds ev else if k = -1 then newL s ds.reverse ev else .no := rfl
end T6

namespace T6
open PySem PySem.Spec PyProof.Rows L2
variable [Tbl]
/-! ### x.pop(j), x.pop() at a path, of flat items -/
def erU (j : Nat) (ds : List D) (_ : D) : Option (List D) := if j < ds.length then some (ds.eraseIdx j) else none
noncomputable def popPK (i : Nat) (ks : List Nat) (d0 : D) (x : Rs MD) : Rs MD := match x with
  | .ok r ev2 => match ev2[i]?, r.2, getP ks d0 with
    | some (some (.lk, _)), .int n, some (.lst ds) => if 0 ≤ n ∧ n < ds.length ∧ n < 1000000 then (match ds[n.toNat]? with
      | some d => if flat d = true then (match mutG (erU n.toNat) i ks (.dp, .non) (ev2.set i (some (.dp, d0))) with
        | some ev3 => .ok (.dp, d) ev3
        | none => .no) else .no
      | none => .no) else .no
    | _, _, _ => .no
  | _ => .no
noncomputable def popPE (i : Nat) (p : Ev → Option (List Nat)) (f : Ev → Rs MD) : Ev → Rs MD := fun ev => match p ev, ev[i]? with
  | some ks, some (some (.dp, d0)) => popPK i ks d0 (f (ev.set i (some (.lk, d0))))
  | _, _ => .no
noncomputable def popLE (i : Nat) (p : Ev → Option (List Nat)) : Ev → Rs MD := fun ev => match p ev, ev[i]? with
  | some ks, some (some (.dp, d0)) => (match getP ks d0 with
    | some (.lst ds) => (match ds[ds.length - 1]? with
      | some d => if flat d = true then (match mutG (erU (ds.length - 1)) i ks (.dp, .non) ev with
        | some ev3 => .ok (.dp, d) ev3
        | none => .no) else .no
      | none => .no)
    | _ => .no)
  | _, _ => .no
section
variable {K : PySem.W.Frag} {C : Cs} {mg : Str → Option Value} {X : Cx} {W : WX} {a b c e e2 : Expr} {H H' H1 H2 : Hp} {O O' O1 O2 S S' S1 S2 L : Ps} {P P' : Nat → Prop} {σ τ : L2.St} {ev ev1 ev2 : Ev} {pos apos p1 px cpos epos : Pos} {rs rs1 rs2 : List MD} {vs vs1 vs2 : List V} {es : List En} {x : Str} {i : Nat}
theorem reps_er : ∀ {j : Nat} {ds : List D} {xs : List V} {fp : List Addr}, Reps C H ds xs fp → ∃ fq, Reps C H (ds.eraseIdx j) (xs.eraseIdx j) fq ∧ fq.Sublist fp
  | _, [], xs, fp, r => by
    obtain ⟨rfl, rfl⟩ : xs = [] ∧ fp = [] := r
    exact ⟨[], ⟨rfl, rfl⟩, List.Sublist.refl _⟩
  | 0, d :: ds, xs, fp, r => by
    obtain ⟨v, vs, f1, f2, rfl, rfl, r1, r2⟩ := r
    exact ⟨f2, r2, List.sublist_append_right _ _⟩
  | j + 1, d :: ds, xs, fp, r => by
    obtain ⟨v, vs, f1, f2, rfl, rfl, r1, r2⟩ := r
    obtain ⟨fq, r3, s3⟩ := reps_er (j := j) r2
    exact ⟨f1 ++ fq, ⟨v, vs.eraseIdx j, f1, fq, rfl, rfl, r1, r3⟩, s3.append_left f1⟩
theorem er_mut {j : Nat} : MutOk (erU j) (fun us _ => us.eraseIdx j) := fun ds vs d v ds' hl h C H f1 fo r1 r2 => by
  unfold erU at h
  split at h
  · cases h
    obtain ⟨fq, r3, s3⟩ := reps_er (j := j) r1
    refine ⟨fq, r3, fun a ha => List.mem_append_left _ (s3.subset ha), fun nd => ?_⟩
    exact (List.nodup_append.mp nd).1.sublist s3
  · cases h
theorem e_popP {p : Ev → Option (List Nat)} {f : Ev → Rs MD} {o : Expr} (hv : PE X o (tPth (KL X.K) i p)) (he : PE X e (tE (KL X.K) mg W f))
    (hbase : attributeBase o "pop" X.env (eval o X.env) = eval o X.env := by rfl)
    (hfew : ((backTo pos (starEach [e] X.env)).all (fun x => !x.1) && (backToKw pos (keywordEach [] X.env)).all (fun x => x.1.isSome)
      && decide ([e].length + ([] : List Keyword).length + (if ([] : List Keyword).isEmpty then 0 else 1) < 30)) = true := by rfl)
    (hline : (apos.endLine == pos.line) = true := by rfl) (hs : starEach [e] X.env = (false, eval e X.env) :: starEach [] X.env := by rfl) (hplain : (backTo pos (starEach [] X.env)).any (·.1) = false := by rfl) :
    PE X (.Call (.Attribute o "pop" apos) [e] [] pos) (tE (KL X.K) mg W (popPE i p f)) :=
  pe_weak (pe_bm PySem.F.plainAttrs_list PySem.F.slot_list_pop PySem.F.type_list_pop mt_popAt hv (pa_cons he pa_nil hs) hbase hfew hline hs hplain) fun σ H Q => by
  rintro ⟨ev, O, S, L, ft, gd, k⟩
  unfold popPE at k
  split at k
  · rename_i ks d0 hp he
    obtain ⟨v0, e1, pm, f0⟩ := fit_get ft he
    cases hf : f (ev.set i (some (Md.lk, d0))) with
    | ex c q ev2 => rw [hf] at k; exact k.elim
    | no => rw [hf] at k; exact k.elim
    | ok r ev2 =>
      rw [hf] at k
      unfold popPK at k
      dsimp only at k
      split at k
      · rename_i d1 n ds hl hr hg
        split at k
        · rename_i hn
          split at k
          · rename_i d hd
            split at k
            · rename_i hfl
              split at k
              · rename_i ev3 e7
                obtain ⟨m', d0', ds', he', hg', hk⟩ := mutG_inv e7
                have il2 : i < ev2.length := (List.getElem?_eq_some_iff.mp hl).1
                have he2 : (ev2.set i (some (Md.dp, d0)))[i]? = some (some (Md.dp, d0)) := List.getElem?_set_self il2
                rw [he2] at he'
                cases he'
                refine ⟨ev, O, S, L, ft, gd, .dp, d0, ks, _, he, hp, hg, .inr rfl, fun v0' t hv hat => ⟨pth_ty ft gd he hg (.inr rfl) hv hat, ?_⟩⟩
                obtain ⟨OE, L', f1, g1, _, nx⟩ := lock_okD ft gd he
                refine ⟨_, OE, S, L', f1, g1, ?_⟩
                rw [hf]
                intro v H1 O2 S2 p
                have hvi : v = .int n := by
                  obtain ⟨rm, rd⟩ := r
                  have hr : rd = .int n := hr
                  subst hr
                  obtain ⟨fp, rr⟩ := p.rep1
                  exact rr.1
                subst hvi
                obtain ⟨⟨O3, p3⟩, w0, o1, hw, r0, tk, kp⟩ := nx (fun _ => True) [r] ev2 [V.int n] σ O2 S2 H1 trivial p ⟨_, hl⟩ fun j hj => absurd trivial hj
                rw [hw] at hv
                cases hv
                have hat1 := hat.kp r0 tk kp
                obtain ⟨fa, ra, sa⟩ := hat1.rep (r0.kp kp) (fun a ha => by
                  have e := kp.own a ha
                  rcases tk a ha with ⟨xs, q⟩ | ⟨xs, q⟩
                  · exact .inl ⟨xs, by rw [e]; exact q⟩
                  · exact .inr ⟨xs, by rw [e]; exact q⟩)
                obtain ⟨O3a, p3a⟩ := p3.drop
                obtain ⟨O3', p3'⟩ := p3a.flat (d := .non) (v := .non) (f := []) rfl ⟨rfl, rfl⟩
                obtain ⟨q, us, ds2, eq, ed, hq, hl2, ⟨ds3, hu⟩, O', S', p4⟩ := mut_ok er_mut p3' hw he2 hg hat1 e7
                subst eq
                cases ed
                obtain ⟨a2, vs2, f2, e3, rr, q3 | ⟨q3, _⟩⟩ := ra
                rotate_left
                · exact q3.elim
                cases e3
                obtain ⟨q4, rfl⟩ := q3
                have hq4 := lst_rd q4 (by
                  have := sa q List.mem_cons_self
                  have e := kp.own q this
                  rcases tk q this with ⟨xs, z⟩ | ⟨xs, z⟩
                  · exact .inl ⟨xs, by rw [e]; exact z⟩
                  · exact .inr ⟨xs, by rw [e]; exact z⟩)
                rw [hq] at hq4
                cases hq4
                obtain ⟨y, fy, hy, ry, _⟩ := rr.get hd
                have hj : n.toNat < us.length := by rw [hl2]; omega
                refine ⟨q, us, n, n.toNat, y, rfl, rfl, hq, by omega, by omega, ?_, hy, ?_⟩
                · unfold seqIndex?
                  rw [hl2]
                  have h1 : ¬ n < 0 := by omega
                  simp [h1]
                  omega
                · obtain ⟨O4, p5⟩ := p4.flat hfl ((rep_flat0 hfl ry.mono).kp (kp_upd (by simp) (.inl ⟨_, hq⟩)))
                  exact k _ _ _ _ p5
              · exact k.elim
            · exact k.elim
          · exact k.elim
        · exact k.elim
      · exact k.elim
  · exact k.elim
theorem popL_weak {p : Ev → Option (List Nat)} : ∀ σ H Q, tE (KL K) mg W (popLE i p) σ H Q → tBM0 K "list" rPop (tPth (KL K) i p) σ H Q := fun σ H Q => by
  rintro ⟨ev, O, S, L, ft, gd, k⟩
  unfold popLE at k
  split at k
  · rename_i ks d0 hp he
    split at k
    · rename_i ds hg
      split at k
      · rename_i d hd
        split at k
        · rename_i hfl
          split at k
          · rename_i ev3 e7
            refine ⟨ev, O, S, L, ft, gd, .dp, d0, ks, _, he, hp, hg, .inr rfl, fun v0 t hv hat => ⟨pth_ty ft gd he hg (.inr rfl) hv hat, ?_⟩⟩
            obtain ⟨v0', own, e1, hent⟩ := slot_ent ft gd he
            rw [hv] at e1
            cases e1
            obtain ⟨r0, tk⟩ : Rep RF H d0 v0 own ∧ ∀ a ∈ own, Trk H a := hent
            obtain ⟨fa, ra, sa⟩ := hat.rep r0 tk
            obtain ⟨O2, p1⟩ := (Pst.refl (P := fun _ => True) ft gd).flat (d := .non) (v := .non) (f := []) rfl ⟨rfl, rfl⟩
            obtain ⟨q, us, ds2, eq, ed, hq, hl2, _, O', S', p4⟩ := mut_ok er_mut p1 hv he hg hat e7
            subst eq
            cases ed
            obtain ⟨a2, vs2, f2, e3, rr, q3 | ⟨q3, _⟩⟩ := ra
            rotate_left
            · exact q3.elim
            cases e3
            obtain ⟨q4, rfl⟩ := q3
            have hq4 := lst_rd q4 (tk q (sa q List.mem_cons_self))
            rw [hq] at hq4
            cases hq4
            obtain ⟨y, fy, hy, ry, _⟩ := rr.get hd
            rw [← hl2] at hy
            have hne : us ≠ [] := fun z => by rw [z] at hy; cases hy
            have hdl : us.dropLast = us.eraseIdx (us.length - 1) := by
              have hp := List.length_pos_iff.mpr hne
              rw [List.dropLast_eq_take, List.eraseIdx_eq_take_drop_succ, List.drop_eq_nil_of_le (by omega), List.append_nil]
            refine ⟨q, us, y, rfl, rfl, hq, hy, ?_⟩
            rw [hdl, hl2]
            obtain ⟨O4, p5⟩ := p4.flat hfl ((rep_flat0 hfl ry.mono).kp (kp_upd (by simp) (.inl ⟨_, hq⟩)))
            exact k _ _ _ _ p5
          · exact k.elim
        · exact k.elim
      · exact k.elim
    · exact k.elim
  · exact k.elim
theorem e_popL {p : Ev → Option (List Nat)} {o : Expr} (ho : PE X o (tPth (KL X.K) i p)) (hbase : attributeBase o "pop" X.env (eval o X.env) = eval o X.env := by rfl) (hline : (apos.endLine == pos.line) = true := by rfl) : PE X (.Call (.Attribute o "pop" apos) [] [] pos) (tE (KL X.K) mg W (popLE i p)) :=
  pe_weak (pe_bm0 PySem.F.plainAttrs_list PySem.F.slot_list_pop PySem.F.type_list_pop mt_pop ho hbase hline) popL_weak
end
@[simp] theorem x_popPK {i : Nat} {ks : List Nat} {d0 : D} {ev2 : Ev} {r : MD} : popPK i ks d0 (.ok r ev2) = (match ev2[i]?, r.2, getP ks d0 with
    | some (some (.lk, _)), .int n, some (.lst ds) => if 0 ≤ n ∧ n < ds.length ∧ n < 1000000 then (match ds[n.toNat]? with
      | some d => if flat d = true then (match mutG (erU n.toNat) i ks (.dp, .non) (ev2.set i (some (.dp, d0))) with
        | some ev3 => .ok (.dp, d) ev3
        | none => .no) else .no
      | none => .no) else .no
    | _, _, _ => .no) := rfl
@[simp] theorem x_popPE {i : Nat} {p : Ev → Option (List Nat)} {f : Ev → Rs MD} {ev : Ev} : popPE i p f ev = (match p ev, ev[i]? with
  | some ks, some (some (.dp, d0)) => popPK i ks d0 (f (ev.set i (some (.lk, d0))))
  | _, _ => .no) := rfl
@[simp] theorem x_popLE {i : Nat} {p : Ev → Option (List Nat)} {ev : Ev} : popLE i p ev = (match p ev, ev[i]? with
  | some ks, some (some (.dp, d0)) => (match getP ks d0 with
    | some (.lst ds) => (match ds[ds.length - 1]? with
      | some d => if flat d = true then (match mutG (erU (ds.length - 1)) i ks (.dp, .non) ev with
        | some ev3 => .ok (.dp, d) ev3
        | none => .no) else .no
      | none => .no)
    | _ => .no)
  | _, _ => .no) := rfl
@[simp] theorem x_erU {j : Nat} {ds : List D} {d : D} : erU j ds d = if j < ds.length then some (ds.eraseIdx j) else none := rfl
end T6

namespace T6
open PySem PySem.Spec PyProof.Rows L2
variable [Tbl]
/-! ### a part of what is ours, held by a name of its own for a while -/
section
variable {C : Cs} {mg : Str → Option Value} {H H' H1 H2 : Hp} {O O' O1 O2 S S' S1 S2 L L' : Ps} {P : Nat → Prop} {σ τ : L2.St} {ev ev1 ev2 : Ev} {rs rs1 rs2 : List MD} {vs vs1 vs2 : List V}
theorem at_lst_inv {xs : List D} {ws : List V} {a : Addr} {k : Nat} {ks : List Nat} {d : D} {v : V} (hH : H a = some (.lst ws)) (h : At H (.lst xs) (.ref a) (k :: ks) d v) : ∃ dk vk, xs[k]? = some dk ∧ ws[k]? = some vk ∧ At H dk vk ks d v := by
  cases h with
  | lst q h1 h2 h3 => rw [hH] at q; cases q; exact ⟨_, _, h1, h2, h3⟩
theorem at_tup_inv {xs : List D} {ws : List V} {a : Addr} {k : Nat} {ks : List Nat} {d : D} {v : V} (hH : Rd H a (.tup ws)) (h : At H (.tup xs) (.ref a) (k :: ks) d v) : ∃ dk vk, xs[k]? = some dk ∧ ws[k]? = some vk ∧ At H dk vk ks d v := by
  cases h with
  | tup q h1 h2 h3 =>
    have := rdt_uniq hH q
    subst this
    exact ⟨_, _, h1, h2, h3⟩
theorem rep_hole {d0 d : D} {v0 w : V} {ks : List Nat} (h : At H d0 v0 ks d w) : ∀ {f0 : List Addr}, Rep RF H d0 v0 f0 → f0.Nodup → (∀ a ∈ f0, Trk H a) →
    ∃ fi fo, Rep RF H d w fi ∧ f0.Perm (fi ++ fo) ∧ ∀ (H' : Hp), Kp fo H H' → (∀ (d' : D) (f' : List Addr), Rep RF H' d' w f' → ∃ g, Rep RF H' (putP ks d0 d') v0 g ∧ g.Perm (f' ++ fo)) ∧
      ∀ (ks1 ks2 : List Nat) (dm : D) (m : V) (d' : D), ks = ks1 ++ ks2 → ks2 ≠ [] → At H d0 v0 ks1 dm m → At H' (putP ks d0 d') v0 ks1 (putP ks2 dm d') m ∧ ∀ q us, m = .ref q → H q = some (.lst us) → H' q = some (.lst us) := by
  induction h with
  | nil =>
    refine fun {f0} r _ _ => ⟨f0, [], r, by simp, fun H' _ => ⟨fun d' f' r' => ⟨f', r', by simp⟩, fun ks1 ks2 dm m d' e n _ => ?_⟩⟩
    cases ks1 with
    | nil => exact absurd e.symm n
    | cons => cases e
  | @lst xs ws a k ks dk vk d v hH h1 h2 hat ih =>
    intro f0 r nd tk
    obtain ⟨a', vs', fc, e2, rr, q | ⟨q, _⟩⟩ := r
    rotate_left
    · exact q.elim
    cases e2
    obtain ⟨q, rfl⟩ := q
    have := lst_rd q (tk a List.mem_cons_self)
    rw [hH] at this
    cases this
    have nd' := List.nodup_cons.mp nd
    obtain ⟨v2, fl, fm, fr, e3, rm, rfl, nx⟩ := reps_at rr h1
    rw [h2] at e3
    cases e3
    have nd2 := List.nodup_append.mp nd'.2
    have nd3 := List.nodup_append.mp nd2.2.1
    obtain ⟨fi, fo, ri, pm, go⟩ := ih rm nd3.1 fun b hb => tk b (by simp [hb])
    refine ⟨fi, a :: (fl ++ (fo ++ fr)), ri, ?_, fun H' kp => ⟨fun d' f' r' => ?_, fun ks1 ks2 dm m d' e n hm => ?_⟩⟩
    · rw [List.perm_iff_count]
      intro x
      have := pm.count_eq x
      simp only [List.count_append, List.count_cons] at this ⊢
      omega
    · obtain ⟨g, rg, pg⟩ := (go H' (kp.sub fun b hb => by simp [hb])).1 d' f' r'
      have r5 := nx H' _ g (kp.sub fun b hb => by rcases List.mem_append.mp hb with hb | hb <;> simp [hb]) rg
      refine ⟨a :: (fl ++ (g ++ fr)), ?_, ?_⟩
      · show Rep RF _ (.lst (xs.modify k fun y => putP ks y d')) _ _
        rw [modify_set h1]
        exact ⟨a, _, _, rfl, r5, .inl ⟨.inl (by rw [kp.own a (by simp)]; exact hH), rfl⟩⟩
      · rw [List.perm_iff_count]
        intro x
        have := pg.count_eq x
        simp only [List.count_append, List.count_cons] at this ⊢
        omega
    · have ha : H' a = some (.lst ws) := by rw [kp.own a (by simp)]; exact hH
      cases ks1 with
      | nil =>
        have e : k :: ks = ks2 := e
        subst e
        cases hm
        exact ⟨.nil, fun q us e h => by cases e; rw [hH] at h; cases h; exact ha⟩
      | cons k1 ks1 =>
        have e1 : k = k1 := by injection e
        have e2 : ks = ks1 ++ ks2 := by injection e
        subst e1
        obtain ⟨dk', vk', g1, g2, g3⟩ := at_lst_inv hH hm
        rw [h1] at g1
        cases g1
        rw [h2] at g2
        cases g2
        obtain ⟨z1, z2⟩ := (go H' (kp.sub fun b hb => by simp [hb])).2 ks1 ks2 dm m d' e2 n g3
        refine ⟨?_, z2⟩
        show At H' (.lst (xs.modify k fun y => putP ks y d')) _ _ _ _
        rw [modify_set h1]
        exact .lst ha (by rw [List.getElem?_set_self (List.getElem?_eq_some_iff.mp h1).1]) h2 z1
  | @tup xs ws a k ks dk vk d v hH h1 h2 hat ih =>
    intro f0 r nd tk
    obtain ⟨a', vs', e2, q, rr⟩ := r
    cases e2
    have same := rdt_uniq hH q
    subst same
    obtain ⟨v2, fl, fm, fr, e3, rm, rfl, nx⟩ := reps_at rr h1
    rw [h2] at e3
    cases e3
    have nd2 := List.nodup_append.mp nd
    have nd3 := List.nodup_append.mp nd2.2.1
    obtain ⟨fi, fo, ri, pm, go⟩ := ih rm nd3.1 fun b hb => tk b (by simp [hb])
    refine ⟨fi, fl ++ (fo ++ fr), ri, ?_, fun H' kp => ⟨fun d' f' r' => ?_, fun ks1 ks2 dm m d' e n hm => ?_⟩⟩
    · rw [List.perm_iff_count]
      intro x
      have := pm.count_eq x
      simp only [List.count_append] at this ⊢
      omega
    · obtain ⟨g, rg, pg⟩ := (go H' (kp.sub fun b hb => by simp [hb])).1 d' f' r'
      have r5 := nx H' _ g (kp.sub fun b hb => by rcases List.mem_append.mp hb with hb | hb <;> simp [hb]) rg
      refine ⟨fl ++ (g ++ fr), ?_, ?_⟩
      · show Rep RF _ (.tup (xs.modify k fun y => putP ks y d')) _ _
        rw [modify_set h1]
        exact ⟨a, _, rfl, kp.rdt hH, r5⟩
      · rw [List.perm_iff_count]
        intro x
        have := pg.count_eq x
        simp only [List.count_append] at this ⊢
        omega
    · cases ks1 with
      | nil =>
        have e : k :: ks = ks2 := e
        subst e
        cases hm
        refine ⟨.nil, fun q us e h => ?_⟩
        cases e
        rcases hH with hH | ⟨o, hH⟩ <;> (rw [hH] at h; cases h)
      | cons k1 ks1 =>
        have e1 : k = k1 := by injection e
        have e2 : ks = ks1 ++ ks2 := by injection e
        subst e1
        obtain ⟨dk', vk', g1, g2, g3⟩ := at_tup_inv hH hm
        rw [h1] at g1
        cases g1
        rw [h2] at g2
        cases g2
        obtain ⟨z1, z2⟩ := (go H' (kp.sub fun b hb => by simp [hb])).2 ks1 ks2 dm m d' e2 n g3
        refine ⟨?_, z2⟩
        show At H' (.tup (xs.modify k fun y => putP ks y d')) _ _ _ _
        rw [modify_set h1]
        exact .tup (kp.rdt hH) (by rw [List.getElem?_set_self (List.getElem?_eq_some_iff.mp h1).1]) h2 z1
/-- slots that are not pinned hold nothing lent -/
def lkF (pn : List Nat) : Nat → Ev → Bool
  | _, [] => true
  | n, s :: ev => (decide (n ∈ pn) || (match s with | some (.lk, d) => flat d | _ => true)) && lkF pn (n + 1) ev
theorem lkF_get {pn : List Nat} : ∀ {ev : Ev} {n j : Nat} {d : D}, lkF pn n ev = true → ev[j]? = some (some (Md.lk, d)) → n + j ∉ pn → flat d = true
  | [], _, _, _, _, e, _ => by simp at e
  | s :: ev, n, 0, d, h, e, hn => by
    simp only [List.getElem?_cons_zero, Option.some.injEq] at e
    subst e
    simp only [lkF, Bool.and_eq_true, Bool.or_eq_true, decide_eq_true_eq] at h
    rcases h.1 with h | h
    · exact absurd h hn
    · exact h
  | s :: ev, n, j + 1, d, h, e, hn => by
    simp only [lkF, Bool.and_eq_true] at h
    exact lkF_get (n := n + 1) h.2 (by simpa using e) (by rw [Nat.add_assoc, Nat.add_comm 1]; exact hn)
theorem hole_ok {i t : Nat} {d0 d : D} {v0 w : V} {ks : List Nat} (ft : Fit ev σ) (gd : Good C H O S L (ents ev σ)) (e : ev[i]? = some (some (Md.dp, d0))) (hv : σ[i]? = some (some v0)) (hat : At H d0 v0 ks d w) (ti : t ≠ i) (tl : t < ev.length) :
    ∃ OE L', Fit ((ev.set i none).set t (some (.dp, d))) (σ.set t (some w)) ∧ Good C H OE S L' (ents ((ev.set i none).set t (some (.dp, d))) (σ.set t (some w))) ∧
      ∀ (P : Nat → Prop) (pn : List Nat) (ev2 : Ev) (τ : L2.St) (O2 S2 : Ps) (H2 : Hp) (d' : D), ¬ P t → i ∈ pn → t ∈ pn → Pst C L' (fun j => P j ∨ j ∈ pn) (σ.set t (some w)) ((ev.set i none).set t (some (.dp, d))) OE S H [] ev2 [] τ O2 S2 H2 → ev2[t]? = some (some (Md.dp, d')) → ev2[i]? = some none →
        lkF pn 0 ev2 = true → (∃ O', Pst C L P σ ev O S H [] ((ev2.set t none).set i (some (.dp, putP ks d0 d'))) [] τ O' S2 H2) ∧ τ[i]? = some (some v0) ∧
          ∀ (ks1 ks2 : List Nat) (dm : D) (m : V), ks = ks1 ++ ks2 → ks2 ≠ [] → At H d0 v0 ks1 dm m → At H2 (putP ks d0 d') v0 ks1 (putP ks2 dm d') m ∧ ∀ q us, m = .ref q → H q = some (.lst us) → H2 q = some (.lst us) := by
  obtain ⟨v, e1, pm, f0⟩ := fit_get ft e
  rw [hv] at e1
  cases e1
  have il : i < ev.length := (List.getElem?_eq_some_iff.mp e).1
  obtain ⟨q, pq, f1⟩ := ents_none (i := t) f0
  have gall : Good C H O S L (q ++ ((v0, (Md.dp, d0)) :: ents ((ev.set i none).set t none) σ)) := gd.perm (pm.trans ((pq.cons _).trans List.perm_middle.symm))
  obtain ⟨O1, g1, le1⟩ := gall.drop
  obtain ⟨ol, ⟨o1, o2, rfl, h1, h2⟩, nd, mm⟩ := g1.ex
  have nd' := List.nodup_append.mp nd
  obtain ⟨r0, t1⟩ := h1
  have m1 : ∀ a ∈ o1, O1 a := fun a h => (mm a).mp (List.mem_append_left _ h)
  have m2 : ∀ a ∈ o2, O1 a := fun a h => (mm a).mp (List.mem_append_right _ h)
  obtain ⟨fi, fo, ri, pf, back⟩ := rep_hole hat r0 nd'.1 t1
  have ndf := List.nodup_append.mp (pf.nodup_iff.mp nd'.1)
  have fi1 : ∀ a ∈ fi, a ∈ o1 := fun a h => pf.mem_iff.mpr (List.mem_append_left _ h)
  have fo1 : ∀ a ∈ fo, a ∈ o1 := fun a h => pf.mem_iff.mpr (List.mem_append_right _ h)
  have tl' : t < (ev.set i none).length := by rw [List.length_set]; exact tl
  obtain ⟨ps, fs⟩ := fit_set (md := (Md.dp, d)) (v := w) f0 tl'
  have OE : ∀ a, (a ∈ fi ∨ a ∈ o2) → O1 a := fun a h => h.elim (fun h => m1 a (fi1 a h)) (m2 a)
  have nfo : ∀ a ∈ fo, ¬ (a ∈ fi ∨ a ∈ o2) := fun a h z => z.elim (fun z => ndf.2.2 a z a h rfl) fun z => nd'.2.2 a (fo1 a h) a z rfl
  refine ⟨fun a => a ∈ fi ∨ a ∈ o2, fun a => L a ∨ a ∈ fo, fs, ?_, fun P pn ev2 τ O2 S2 H2 d' hPt hi ht p et ei lf => ?_⟩
  · refine Good.perm (es := (w, (Md.dp, d)) :: ents ((ev.set i none).set t none) σ) ⟨⟨fi ++ o2, ⟨fi, o2, rfl, ⟨ri, fun a h => t1 a (fi1 a h)⟩, h2.lmono fun a h => .inl h⟩, List.nodup_append.mpr ⟨ndf.1, nd'.2.1, fun a h b h' z => nd'.2.2 a (fi1 a h) b h' z⟩, fun a => List.mem_append⟩, fun a h => ⟨(g1.os a (OE a h)).1, fun z => z.elim (g1.os a (OE a h)).2 fun z => nfo a z h⟩, fun a h z => z.elim (g1.sl a h) fun z => (g1.os a (m1 a (fo1 a z))).1 h, fun a h => ?_, g1.tab⟩ ps.symm
    rcases h with h | h | h
    · exact g1.lv a (.inl h)
    · exact g1.lv a (.inr h)
    · exact (t1 a (fo1 a h)).ne
  · have go := p.go
    have trkE : ∀ a, (a ∈ fi ∨ a ∈ o2) → Trk H a := fun a h => h.elim (fun h => t1 a (fi1 a h)) (h2.trk a)
    have nsE : ∀ a, (a ∈ fi ∨ a ∈ o2) → ¬ S a ∧ ¬ L a := fun a h => g1.os a (OE a h)
    have kp : Kp fo H H2 := go.kp trkE nfo fun a h => (t1 a (fo1 a h)).lv
    obtain ⟨back1, back2⟩ := back H2 kp
    -- the values of the two slots
    have tls : t < σ.length := by rw [← ft.length]; exact tl
    have τt : τ[t]? = some (some w) := by
      have := (p.lk t (.inr ht)).1
      rw [this, List.getElem?_set_self tls]
    have τi : τ[i]? = some (some v0) := by
      have := (p.lk i (.inr hi)).1
      rw [this, List.getElem?_set_ne ti, hv]
    obtain ⟨w', e2, pm2, f2⟩ := fit_get p.fit et
    rw [τt] at e2
    cases e2
    have g2 : Good C H2 O2 S2 (fun a => L a ∨ a ∈ fo) ((w, (Md.dp, d')) :: ents (ev2.set t none) τ) := p.good.perm pm2
    obtain ⟨ol2, ⟨p1, p2, rfl, ⟨r1, t2⟩, h3⟩, nd2, mm2⟩ := g2.ex
    have nd2' := List.nodup_append.mp nd2
    obtain ⟨g, rg, pg⟩ := back1 d' p1 r1
    have il2 : i < ev2.length := (List.getElem?_eq_some_iff.mp ei).1
    have il3 : i < (ev2.set t none).length := by rw [List.length_set]; exact il2
    obtain ⟨pl2, fl2⟩ := fit_put (md := (Md.dp, putP ks d0 d')) f2 il3 τi
    have eni : (ev2.set t none).set i none = ev2.set t none := set_none fun md z => by
      rw [List.getElem?_set_ne ti, ei] at z; cases z
    rw [eni] at pl2
    have newO2 : ∀ a, O2 a → (a ∈ fi ∨ a ∈ o2) ∨ H a = none := go.newO
    have dfo : ∀ a ∈ fo, ¬ O2 a := fun a h z => (newO2 a z).elim (nfo a h) (t1 a (fo1 a h)).ne
    have sfo : ∀ a ∈ fo, ¬ S2 a := fun a h z => by
      rcases go.newS a z with z | z | z
      · exact (g1.os a (m1 a (fo1 a h))).1 z
      · exact nfo a h z
      · exact (t1 a (fo1 a h)).ne z
    have mp1 : ∀ a ∈ p1, O2 a := fun a h => (mm2 a).mp (List.mem_append_left _ h)
    have mp2 : ∀ a ∈ p2, O2 a := fun a h => (mm2 a).mp (List.mem_append_right _ h)
    have mg' : ∀ a, a ∈ g ↔ a ∈ p1 ∨ a ∈ fo := fun a => pg.mem_iff.trans List.mem_append
    -- what is lent behind
    have old : ∀ x ∈ ents (ev2.set t none) τ, x.2.1 = Md.lk → ∃ fp, Rep C H2 x.2.2 x.1 fp ∧ ∀ a ∈ fp, L a ∨ S2 a := by
      intro x hx hl
      obtain ⟨j, q1, q2⟩ := mem_ents hx
      obtain ⟨xw, mx, dx⟩ := x
      have hl : mx = Md.lk := hl
      subst hl
      have jt : t ≠ j := fun z => by
        subst z
        rw [List.getElem?_set_self (List.getElem?_eq_some_iff.mp et).1] at q1; cases q1
      rw [List.getElem?_set_ne jt] at q1
      have ji : i ≠ j := fun z => by
        subst z
        rw [ei] at q1; cases q1
      by_cases pj : j ∈ pn
      · obtain ⟨s1, s2⟩ := p.lk j (.inr pj)
        have s3 := s2 dx q1
        rw [List.getElem?_set_ne jt, List.getElem?_set_ne ji] at s3
        have s4 : σ[j]? = some (some xw) := by rw [← q2, s1, List.getElem?_set_ne jt]
        obtain ⟨w', own, s5, en⟩ := slot_ent ft gd s3
        rw [s4] at s5
        cases s5
        obtain ⟨_, fp, r, s⟩ := en
        exact ⟨fp, r.kp (go.kp trkE (fun a ha z => (s a ha).elim (nsE a z).2 (nsE a z).1) (rep_lv r)), fun a ha => (s a ha).imp id (go.monS a)⟩
      · have fx := lkF_get lf q1 (by rw [Nat.zero_add]; exact pj)
        obtain ⟨own, _, fp, r, _⟩ := ents_mem h3 _ hx
        exact ⟨[], rep_flat0 fx r, by simp⟩
    have e4 := h3.relent old
    refine ⟨⟨fun a => a ∈ g ∨ a ∈ p2, fl2, ?_, rfl, by simp, ?_, ?_⟩, τi, fun ks1 ks2 dm m e n hm => back2 ks1 ks2 dm m d' e n hm⟩
    · intro j pj
      obtain ⟨s1, s2⟩ := p.lk j (.inl pj)
      have jt : t ≠ j := fun z => hPt (by rw [z]; exact pj)
      refine ⟨by rw [s1, List.getElem?_set_ne jt], fun dd q => ?_⟩
      by_cases ij : i = j
      · subst ij
        rw [List.getElem?_set_self il3] at q
        cases q
      · rw [List.getElem?_set_ne ij, List.getElem?_set_ne jt] at q
        have := s2 dd q
        rwa [List.getElem?_set_ne jt, List.getElem?_set_ne ij] at this
    · refine Good.perm (es := (v0, (Md.dp, putP ks d0 d')) :: ents (ev2.set t none) τ) ⟨⟨g ++ p2, ⟨g, p2, rfl, ⟨rg, fun a h => ?_⟩, e4⟩, ?_, fun a => List.mem_append⟩, fun a h => ?_, fun a h z => g2.sl a h (.inl z), fun a h => g2.lv a (h.imp id .inl), g2.tab⟩ pl2.symm
      · rcases (mg' a).mp h with h | h
        · exact t2 a h
        · have := kp.own a h
          rcases t1 a (fo1 a h) with ⟨xs, q⟩ | ⟨k, q⟩
          · exact .inl ⟨xs, by rw [this]; exact q⟩
          · exact .inr ⟨k, by rw [this]; exact q⟩
      · refine List.nodup_append.mpr ⟨pg.nodup_iff.mpr (List.nodup_append.mpr ⟨nd2'.1, ndf.2.1, fun a h b h' z => dfo b h' (by rw [← z]; exact mp1 a h)⟩), nd2'.2.1, fun a h b h' z => ?_⟩
        subst z
        rcases (mg' a).mp h with h | h
        · exact nd2'.2.2 a h a h' rfl
        · exact dfo a h (mp2 a h')
      · have : O2 a ∨ a ∈ fo := by
          rcases h with h | h
          · rcases (mg' a).mp h with h | h
            · exact .inl (mp1 a h)
            · exact .inr h
          · exact .inl (mp2 a h)
        rcases this with h | h
        · exact ⟨(g2.os a h).1, fun z => (g2.os a h).2 (.inl z)⟩
        · exact ⟨sfo a h, (g1.os a (m1 a (fo1 a h))).2⟩
    · refine ⟨fun a o h n => go.keep a o h fun z => n (le1 a (OE a z)), go.code, go.live, fun a h => ?_, go.monS, fun a h => (go.newS a h).imp id fun z => z.imp (fun z => le1 a (OE a z)) id⟩
      have : O2 a ∨ a ∈ fo := by
        rcases h with h | h
        · rcases (mg' a).mp h with h | h
          · exact .inl (mp1 a h)
          · exact .inr h
        · exact .inl (mp2 a h)
      rcases this with h | h
      · exact (newO2 a h).imp (fun z => le1 a (OE a z)) id
      · exact .inl (le1 a (m1 a (fo1 a h)))
end
end T6

namespace T6
open PySem PySem.Spec PyProof.Rows L2
variable [Tbl]
/-! ### w = xs[e] and what is done to w; for w in xs, w changed -/
def holAt (i t : Nat) (pn ks : List Nat) (s : Ev → Fl) : Ev → Fl := fun ev => match ev[i]? with
  | some (some (.dp, d0)) => match getP ks d0 with
    | some d => if t < ev.length ∧ t ≠ i then match s ((ev.set i none).set t (some (.dp, d))) with
      | .nx ev2 => match ev2[t]?, ev2[i]? with
        | some (some (.dp, d')), some none => if lkF pn 0 ev2 = true then .nx ((ev2.set t none).set i (some (.dp, putP ks d0 d'))) else .no
        | _, _ => .no
      | _ => .no
     else .no
    | none => .no
  | _ => .no
def holK (i t : Nat) (pn : List Nat) (ds : List D) (s : Ev → Fl) (x : Rs MD) : Fl := match x with
  | .ok r ev2 => match r.2, ev2[i]? with
    | .int j, some (some (.lk, _)) => match ixN ds.length j with
      | some k => holAt i t pn [k] s (ev2.set i (some (.dp, .lst ds)))
      | none => .no
    | _, _ => .no
  | _ => .no
def holE (i t : Nat) (pn : List Nat) (f : Ev → Rs MD) (s : Ev → Fl) : Ev → Fl := fun ev => match ev[i]? with
  | some (some (.dp, .lst ds)) => holK i t pn ds s (f (ev.set i (some (.lk, .lst ds))))
  | _ => .no
def holGo (i t : Nat) (pn ks : List Nat) (s : Ev → Fl) : Nat → Nat → Ev → Fl
  | 0, _, ev => .nx ev
  | m + 1, n, ev => match holAt i t pn (ks ++ [n]) s ev with
    | .nx ev' => holGo i t pn ks s m (n + 1) ev'
    | _ => .no
def forHolS (i t : Nat) (pn : List Nat) (p : Ev → Option (List Nat)) (s : Ev → Fl) : Ev → Fl := fun ev => match p ev, ev[i]? with
  | some ks, some (some (.dp, d0)) => match getP ks d0 with
    | some (.lst ds) => holGo i t pn ks s ds.length 0 ev
    | _ => .no
  | _, _ => .no
section
variable {K : PySem.W.Frag} {C : Cs} {mg : Str → Option Value} {X : Cx} {W : WX} {a b e : Expr} {H H' H1 H2 : Hp} {O O' O1 O2 S S' S1 S2 L L' : Ps} {P : Nat → Prop} {σ τ : L2.St} {ev ev1 ev2 evf : Ev} {pos p1 p2 p' : Pos} {s : Ev → Fl} {i t : Nat} {pn : List Nat}
theorem at_getP {d0 d : T6.D} {v0 w : V} {ks : List Nat} (h : At H d0 v0 ks d w) : getP ks d0 = some d := by
  induction h with
  | nil => rfl
  | lst _ h1 _ _ ih => show (_ : Option T6.D) = _; rw [getP, h1]; exact ih
  | tup _ h1 _ _ ih => show (_ : Option T6.D) = _; rw [getP, h1]; exact ih
theorem at_snoc {d0 d : T6.D} {v0 w : V} {ks : List Nat} (h : At H d0 v0 ks d w) : ∀ {ds : List T6.D} {us : List V} {a : Addr} {n : Nat} {x : T6.D} {v : V}, d = .lst ds → w = .ref a → H a = some (.lst us) → ds[n]? = some x → us[n]? = some v → At H d0 v0 (ks ++ [n]) x v := by
  induction h with
  | nil => rintro ds us a n x v rfl rfl h1 h2 h3; exact .lst h1 h2 h3 .nil
  | lst q h1 h2 _ ih => intro ds us a n x v e1 e2 g1 g2 g3; exact .lst q h1 h2 (ih e1 e2 g1 g2 g3)
  | tup q h1 h2 _ ih => intro ds us a n x v e1 e2 g1 g2 g3; exact .tup q h1 h2 (ih e1 e2 g1 g2 g3)
theorem holAt_ok {D : Ends} {d0 d : T6.D} {v0 w : V} {ks : List Nat} (ft : Fit ev σ) (gd : Good C H O S L (ents ev σ)) (hPt : ¬ P t) (hi : i ∈ pn) (ht : t ∈ pn) (hv : σ[i]? = some (some v0)) (he : ev[i]? = some (some (Md.dp, d0))) (hat : At H d0 v0 ks d w) (k : holAt i t pn ks s ev = .nx evf)
    (fin : ∀ τ O' S' H' d', Pst C L P σ ev O S H [] evf [] τ O' S' H' → τ[i]? = some (some v0) → evf[i]? = some (some (Md.dp, putP ks d0 d')) →
      (∀ (ks1 ks2 : List Nat) (dm : T6.D) (m : V), ks = ks1 ++ ks2 → ks2 ≠ [] → At H d0 v0 ks1 dm m → At H' (putP ks d0 d') v0 ks1 (putP ks2 dm d') m ∧ ∀ q us, m = .ref q → H q = some (.lst us) → H' q = some (.lst us)) → D.nx τ H') :
    tS C mg (fun j => P j ∨ j ∈ pn) W s D (σ.set t (some w)) H := by
  unfold holAt at k
  rw [he] at k
  dsimp only at k
  rw [at_getP hat] at k
  dsimp only at k
  split at k
  rotate_left
  · cases k
  rename_i hti
  split at k
  rotate_left
  · cases k
  rename_i ev2 hs
  split at k
  rotate_left
  · cases k
  rename_i d' et ei
  split at k
  rotate_left
  · cases k
  rename_i lf
  injection k with k
  subst k
  obtain ⟨OE, L', f1, g1, back⟩ := hole_ok ft gd he hv hat hti.2 hti.1
  refine ⟨_, OE, S, L', f1, g1, ?_⟩
  rw [hs]
  intro τ O2 S2 H2 p
  obtain ⟨⟨O', p'⟩, τi, pre⟩ := back P pn ev2 τ O2 S2 H2 d' hPt hi ht p et ei lf
  have il : i < (ev2.set t none).length := by rw [List.length_set]; exact (List.getElem?_eq_some_iff.mp ei).1
  exact fin τ O' S2 H2 d' p' τi (List.getElem?_set_self il) pre
theorem s_hol {x : Str} {f : Ev → Rs MD} {sts : List Stmt} (hP : ¬ P t) (hi : i ∈ pn) (ht : t ∈ pn) (hN : X.N.Nodup) (hx : X.N[t]? = some x) (hl : Loc X.env.scope x) (ha : PE X a (tP (KL X.K) (pName i))) (hb : PE X b (tE (KL X.K) mg W f)) (hs : PlainIx b) (body : PSs X sts (tS (KL X.K) mg (fun j => P j ∨ j ∈ pn) W s))
    (hsw : swapsWith (.Subscript a b p1) (some (.Name x p')) pos.line X.env = pure false := by rfl) (hf : X.fn x = true ∨ X.env.scope.names.lookup x = some .local := by first | exact .inl rfl | exact .inr rfl | assumption) :
    PSs X (.Assign [.Name x p'] (.Subscript a b p1) pos :: sts) (tS (KL X.K) mg P W (holE i t pn f s)) :=
  pss_weak (pss_cons (ps_set hN hx hl (pe_ix ix_seq ha hb hs) hsw hf) body) fun D σ H => by
  rintro ⟨ev, O, S, L, ft, gd, k⟩
  unfold holE at k
  split at k
  rotate_left
  · exact k.elim
  rename_i ds he
  cases hfe : f (ev.set i (some (Md.lk, .lst ds))) with
  | ex c q ev2 => rw [hfe] at k; exact k.elim
  | no => rw [hfe] at k; exact k.elim
  | ok r ev2 =>
    rw [hfe] at k
    unfold holK at k
    dsimp only at k
    split at k
    rotate_left
    · exact k.elim
    rename_i j dk hr hlk
    split at k
    rotate_left
    · exact k.elim
    rename_i n hn
    refine ⟨ev, O, S, L, ft, gd, .vw i true (.lst ds), by simp only [pName, he], fun xv hxv => ?_⟩
    obtain ⟨v1, m1, d1, e2, e3, et, _⟩ := hxv
    have ex := (et rfl).1
    subst ex
    obtain ⟨OE, L', f1, g1, _, nx⟩ := lock_okD ft gd he
    refine ⟨_, OE, S, L', f1, g1, ?_⟩
    rw [hfe]
    intro v H1 O2 S2 p
    obtain ⟨⟨O3, p3⟩, w0, o1, hw, r0, tk, kp⟩ := nx (fun _ => True) [r] ev2 [v] σ O2 S2 H1 trivial p ⟨_, hlk⟩ fun j hj => absurd trivial hj
    rw [hw] at e2
    cases e2
    obtain ⟨q, us, fc, ew, rr, ⟨q0, rfl⟩ | ⟨q0, _⟩⟩ := r0
    rotate_left
    · exact q0.elim
    subst ew
    have hq : H q = some (.lst us) := lst_rd q0 (tk q List.mem_cons_self)
    have hq1 : H1 q = some (.lst us) := by rw [kp.own q List.mem_cons_self]; exact hq
    have ul : us.length = ds.length := rr.length
    -- what was drawn
    have p3g : Good (KL X.K) H1 O3 S2 L ((v, r) :: ents (ev2.set i (some (Md.dp, .lst ds))) σ) := p3.good
    obtain ⟨ol, e4, _⟩ := p3g.ex
    obtain ⟨own, en⟩ := ents_mem e4 (v, r) List.mem_cons_self
    obtain ⟨fp, rv⟩ := en.rep
    have ev_ : v = .int j := by
      have rv : Rep (KL X.K) H1 r.2 v fp := rv
      rw [hr] at rv
      exact rep_int rv
    obtain ⟨O4, g4, le4⟩ := Good.drop (es := [(v, r)]) p3g
    have p4 : Pst (KL X.K) L (fun _ => True) σ ev O S H [] (ev2.set i (some (Md.dp, .lst ds))) [] σ O4 S2 H1 := ⟨p3.fit, p3.lk, rfl, by simp, g4, p3.go.less le4⟩
    have il : i < ev2.length := (List.getElem?_eq_some_iff.mp hlk).1
    have nl : n < ds.length := (ixN_seq hn).2.1
    obtain ⟨wn, hu⟩ : ∃ wn, us[n]? = some wn := ⟨_, List.getElem?_eq_getElem (by omega)⟩
    have hj : atI us j = some wn := by
      unfold atI
      rw [ul, hn]
      exact hu
    have hd : ds[n]? = some (ds[n]'nl) := List.getElem?_eq_getElem nl
    refine .inl ⟨q, us, j, _, rfl, ev_, .inl (.inl hq1), hj, ?_⟩
    cases hk : holAt i t pn [n] s (ev2.set i (some (Md.dp, .lst ds))) with
    | nx evf =>
      rw [hk] at k
      exact holAt_ok (P := P) p4.fit p4.good hP hi ht hw (List.getElem?_set_self il) (.lst hq1 hd hu .nil) hk fun τ O' S' H' d' p5 _ _ _ => k τ O' S' H' ⟨p5.fit, (p4.lk.sub fun _ _ => trivial).trans p5.lk, p5.len, p5.nl, p5.good, p4.go.trans p5.go⟩
    | rt r ev' => unfold holAt at hk; split at hk <;> (try split at hk) <;> (try split at hk) <;> (try split at hk) <;> (try split at hk) <;> (try split at hk) <;> cases hk
    | bk ev' => unfold holAt at hk; split at hk <;> (try split at hk) <;> (try split at hk) <;> (try split at hk) <;> (try split at hk) <;> (try split at hk) <;> cases hk
    | ct ev' => unfold holAt at hk; split at hk <;> (try split at hk) <;> (try split at hk) <;> (try split at hk) <;> (try split at hk) <;> (try split at hk) <;> cases hk
    | ex c q ev' => unfold holAt at hk; split at hk <;> (try split at hk) <;> (try split at hk) <;> (try split at hk) <;> (try split at hk) <;> (try split at hk) <;> cases hk
    | no => rw [hk] at k; exact k.elim
theorem holGo_nx {ks : List Nat} : ∀ {m n : Nat} {ev : Ev} {D : Ends}, AftS C mg P σ ev1 O S L H W D (holGo i t pn ks s m n ev) → ∃ evf, holGo i t pn ks s m n ev = .nx evf
  | 0, _, ev, _, _ => ⟨ev, rfl⟩
  | m + 1, n, ev, D, h => by
    unfold holGo at h ⊢
    split at h
    · rename_i ev' e
      exact holGo_nx h
    · exact h.elim
theorem s_forHol {x : Str} {px : Pos} {o : Expr} {p : Ev → Option (List Nat)} {bd : List Stmt} (hp : PassesOwn (model X.prog X.w) X.A X.env X.xe) (hc : X.calm = true) (ho : PE X o (tPth (KL X.K) i p)) (hg : PG X (.Name x px) (gName t)) (hP : ¬ P t) (hi : i ∈ pn) (ht : t ∈ pn) (body : PSs X bd (tS (KL X.K) mg (fun j => P j ∨ j ∈ pn) W s))
    (hfs : ∀ z, foldedSetIterable o X.env z = pure z := by intro _; rfl) :
    PS X (.For (.Name x px) o bd [] pos) (tS (KL X.K) mg P W (forHolS i t pn p s)) :=
  ps_weak (ps_for hp hc (pi_seq ho) hg body hfs) fun D σ H => by
  rintro ⟨ev, O, S, L, ft, gd, k⟩
  unfold forHolS at k
  split at k
  rotate_left
  · exact k.elim
  rename_i ks d0 hpe he
  split at k
  rotate_left
  · exact k.elim
  rename_i ds hgp
  obtain ⟨evf, hgo⟩ := holGo_nx k
  rw [hgo] at k
  obtain ⟨v0, own, e1, ⟨r0, tk0⟩, nd0⟩ := slot_entN ft gd he
  refine ⟨ev, O, S, L, ft, gd, .dp, d0, ks, .lst ds, he, hpe, hgp, .inr rfl, fun v0' tt hv hat => ?_⟩
  rw [e1] at hv
  cases hv
  obtain ⟨fi, fo, ri, pf, _⟩ := rep_hole hat r0 nd0 tk0
  obtain ⟨q, us, fc, rfl, rr, ⟨q0, rfl⟩ | ⟨q0, _⟩⟩ := ri
  rotate_left
  · exact q0.elim
  have hq : H q = some (.lst us) := lst_rd q0 (tk0 q (pf.mem_iff.mpr (List.mem_append_left _ List.mem_cons_self)))
  have ul : us.length = ds.length := rr.length
  refine ⟨q, rfl, .inl ⟨us, .inl (.inl hq), ?_⟩⟩
  let Pv : Nat → L2.St → Hp → Prop := fun n τ H1 => ∃ evn O' S' dn dsn, Pst (KL X.K) L P σ ev O S H [] evn [] τ O' S' H1 ∧ holGo i t pn ks s (ds.length - n) n evn = .nx evf ∧ evn[i]? = some (some (Md.dp, dn)) ∧ At H1 dn v0 ks (.lst dsn) (.ref q) ∧ dsn.length = ds.length ∧ H1 q = some (.lst us) ∧ τ[i]? = some (some v0)
  refine ⟨fun n m τ H1 => m = ds.length - n ∧ n ≤ ds.length ∧ Pv n τ H1, ⟨ds.length, by simp, Nat.zero_le _, ev, O, S, d0, ds, Pst.refl ft gd, hgo, he, hat, rfl, hq, e1⟩, ?_⟩
  rintro n m τ H1 ⟨rfl, hn, evn, O1, S1, dn, dsn, p, go, ei, hat1, hl1, ha1, et⟩
  by_cases hlt : n < ds.length
  · refine .inr ⟨⟨us, us[n]'(by omega), .inl (.inl ha1), List.getElem?_eq_getElem (by omega)⟩, Pv (n + 1), fun τ' H' pv => ⟨ds.length - (n + 1), by omega, rfl, hlt, pv⟩, fun xv H2 yy => ?_⟩
    obtain ⟨rfl, hx⟩ := yy
    have hx := hx us (.inl (.inl ha1))
    have hd : dsn[n]? = some (dsn[n]'(by omega)) := List.getElem?_eq_getElem (by omega)
    have hat2 := at_snoc hat1 rfl rfl ha1 hd hx
    have em : ds.length - n = (ds.length - (n + 1)) + 1 := by omega
    rw [em] at go
    unfold holGo at go
    split at go
    rotate_left
    · cases go
    rename_i ev' hk
    exact holAt_ok (P := P) p.fit p.good hP hi ht et ei hat2 hk fun τ' O' S' H' d' p5 t5 i5 pre => by
      obtain ⟨z1, z2⟩ := pre ks [n] _ _ rfl (by simp) hat1
      exact ⟨ev', O', S', _, _, ⟨p5.fit, p.lk.trans p5.lk, p5.len, p5.nl, p5.good, p.go.trans p5.go⟩, go, i5, z1, by rw [List.length_modify]; exact hl1, z2 q us rfl ha1, t5⟩
  · have e3 : n = ds.length := by omega
    subst e3
    refine .inl ⟨⟨us, .inl (.inl ha1), by omega⟩, ?_⟩
    rw [Nat.sub_self] at go
    unfold holGo at go
    injection go with go
    subst go
    exact k τ O1 S1 H1 p
end
end T6

namespace T6
open PySem PySem.Spec PyProof.Rows L2
variable [Tbl]
/-! ### the words for it -/
theorem getP_putP {x : D} : ∀ {ks : List Nat} {d0 d : D}, getP ks d0 = some d → getP ks (putP ks d0 x) = some x
  | [], _, _, _ => rfl
  | k :: ks, .lst ds, d, h => by
    obtain ⟨y, h1, h2⟩ := Option.bind_eq_some_iff.mp (show (ds[k]?).bind (getP ks) = some d from h)
    show ((ds.modify k fun y => putP ks y x)[k]?).bind (getP ks) = _
    rw [List.getElem?_modify, h1]
    simpa using getP_putP h2
  | k :: ks, .tup ds, d, h => by
    obtain ⟨y, h1, h2⟩ := Option.bind_eq_some_iff.mp (show (ds[k]?).bind (getP ks) = some d from h)
    show ((ds.modify k fun y => putP ks y x)[k]?).bind (getP ks) = _
    rw [List.getElem?_modify, h1]
    simpa using getP_putP h2
theorem putP_putP {x y : D} : ∀ {ks : List Nat} {d0 : D}, putP ks (putP ks d0 x) y = putP ks d0 y
  | [], _ => rfl
  | k :: ks, .lst ds => by
    show D.lst ((ds.modify k _).modify k _) = D.lst (ds.modify k _)
    rw [List.modify_modify_eq]
    congr 2
    funext z
    exact putP_putP
  | k :: ks, .tup ds => by
    show D.tup ((ds.modify k _).modify k _) = D.tup (ds.modify k _)
    rw [List.modify_modify_eq]
    congr 2
    funext z
    exact putP_putP
  | _ :: _, .non => rfl
  | _ :: _, .bl _ => rfl
  | _ :: _, .int _ => rfl
  | _ :: _, .str _ => rfl
  | _ :: _, .dct _ _ => rfl
  | _ :: _, .err _ _ => rfl
theorem putP_snoc {x : D} {n : Nat} : ∀ {ks : List Nat} {d0 : D} {ds : List D}, getP ks d0 = some (.lst ds) → putP (ks ++ [n]) d0 x = putP ks d0 (.lst (ds.modify n fun _ => x))
  | [], d0, ds, h => by cases h; rfl
  | k :: ks, .lst es, ds, h => by
    obtain ⟨y, h1, h2⟩ := Option.bind_eq_some_iff.mp (show (es[k]?).bind (getP ks) = some _ from h)
    show D.lst (es.modify k fun y => putP (ks ++ [n]) y x) = D.lst (es.modify k fun y => putP ks y _)
    rw [modify_set h1, modify_set h1, putP_snoc h2]
  | k :: ks, .tup es, ds, h => by
    obtain ⟨y, h1, h2⟩ := Option.bind_eq_some_iff.mp (show (es[k]?).bind (getP ks) = some _ from h)
    show D.tup (es.modify k fun y => putP (ks ++ [n]) y x) = D.tup (es.modify k fun y => putP ks y _)
    rw [modify_set h1, modify_set h1, putP_snoc h2]
theorem putP_self : ∀ {ks : List Nat} {d0 d : D}, getP ks d0 = some d → putP ks d0 d = d0
  | [], _, _, h => by cases h; rfl
  | k :: ks, .lst ds, d, h => by
    obtain ⟨y, h1, h2⟩ := Option.bind_eq_some_iff.mp (show (ds[k]?).bind (getP ks) = some d from h)
    show D.lst (ds.modify k _) = _
    rw [modify_set h1, putP_self h2]
    congr 1
    obtain ⟨l, rfl⟩ := List.getElem?_eq_some_iff.mp h1
    exact List.set_getElem_self _
  | k :: ks, .tup ds, d, h => by
    obtain ⟨y, h1, h2⟩ := Option.bind_eq_some_iff.mp (show (ds[k]?).bind (getP ks) = some d from h)
    show D.tup (ds.modify k _) = _
    rw [modify_set h1, putP_self h2]
    congr 1
    obtain ⟨l, rfl⟩ := List.getElem?_eq_some_iff.mp h1
    exact List.set_getElem_self _
theorem holAt_nx {i t : Nat} {pn ks : List Nat} {s : Ev → Fl} {ev ev2 : Ev} {d0 d d' : D} (he : ev[i]? = some (some (.dp, d0))) (hg : getP ks d0 = some d) (ht : t < ev.length ∧ t ≠ i) (hs : s ((ev.set i none).set t (some (.dp, d))) = .nx ev2) (h1 : ev2[t]? = some (some (.dp, d'))) (h2 : ev2[i]? = some none) (h3 : lkF pn 0 ev2 = true) :
    holAt i t pn ks s ev = .nx ((ev2.set t none).set i (some (.dp, putP ks d0 d'))) := by
  unfold holAt
  rw [he]
  dsimp only
  rw [hg]
  dsimp only
  rw [if_pos ht, hs]
  dsimp only
  rw [h1, h2]
  dsimp only
  rw [if_pos h3]
theorem wp_holAt {i t : Nat} {pn ks : List Nat} {s : Ev → Fl} {ev : Ev} {d0 d : D} {W : Ws} (he : ev[i]? = some (some (.dp, d0))) (hg : getP ks d0 = some d) (ht : t < ev.length ∧ t ≠ i)
    (hs : (s ((ev.set i none).set t (some (.dp, d)))).wp ⟨fun ev2 => ∃ d', ev2[t]? = some (some (.dp, d')) ∧ ev2[i]? = some none ∧ lkF pn 0 ev2 = true ∧ W.nx ((ev2.set t none).set i (some (.dp, putP ks d0 d'))), fun _ _ => False, fun _ => False, fun _ => False, fun _ _ _ => False⟩) : (holAt i t pn ks s ev).wp W := by
  cases hx : s ((ev.set i none).set t (some (.dp, d))) with
  | nx ev2 =>
    rw [hx] at hs
    obtain ⟨d', h1, h2, h3, h4⟩ := hs
    rw [holAt_nx he hg ht hx h1 h2 h3]
    exact h4
  | _ => rw [hx] at hs; exact hs.elim
theorem holE_nx {i t : Nat} {pn : List Nat} {f : Ev → Rs MD} {s : Ev → Fl} {ev ev2 : Ev} {ds : List D} {m : Md} {j : Int} {k : Nat} {dk : D} (he : ev[i]? = some (some (.dp, .lst ds))) (hf : f (ev.set i (some (.lk, .lst ds))) = .ok (m, .int j) ev2) (hl : ev2[i]? = some (some (.lk, dk))) (hk : ixN ds.length j = some k) : holE i t pn f s ev = holAt i t pn [k] s (ev2.set i (some (.dp, .lst ds))) := by
  unfold holE
  rw [he]
  dsimp only
  rw [hf]
  unfold holK
  dsimp only
  rw [hl]
  dsimp only
  rw [hk]
/-- each item of a list is changed; nothing else is -/
theorem forHol_map {i t : Nat} {pn : List Nat} {p : Ev → Option (List Nat)} {s : Ev → Fl} {ev : Ev} {ks : List Nat} {d0 : D} {ds : List D} (g : D → D) (hp : p ev = some ks) (he : ev[i]? = some (some (.dp, d0))) (hg : getP ks d0 = some (.lst ds)) (ht : t < ev.length ∧ t ≠ i) (hn : ds = [] ∨ ev[t]? = some none)
    (hs : ∀ d ∈ ds, s ((ev.set i none).set t (some (.dp, d))) = .nx ((ev.set i none).set t (some (.dp, g d)))) (hl : ∀ d ∈ ds, lkF pn 0 ((ev.set i none).set t (some (.dp, g d))) = true) : forHolS i t pn p s ev = .nx (ev.set i (some (.dp, putP ks d0 (.lst (ds.map g))))) := by
  have il : i < ev.length := (List.getElem?_eq_some_iff.mp he).1
  have key : ∀ (m n : Nat), n + m = ds.length → holGo i t pn ks s m n (ev.set i (some (.dp, putP ks d0 (.lst ((ds.take n).map g ++ ds.drop n))))) = .nx (ev.set i (some (.dp, putP ks d0 (.lst (ds.map g))))) := by
    intro m
    induction m with
    | zero =>
      intro n hn
      have : n = ds.length := by omega
      subst this
      unfold holGo
      simp
    | succ m ih =>
      intro n hnm
      have hlt : n < ds.length := by omega
      have hd : ds[n]? = some ds[n] := List.getElem?_eq_getElem hlt
      have hnt : ev[t]? = some none := by
        rcases hn with h | h
        · rw [h] at hlt; exact absurd hlt (by simp)
        · exact h
      obtain ⟨E, hE⟩ : ∃ E, E = (ds.take n).map g ++ ds.drop n := ⟨_, rfl⟩
      have hEn : E[n]? = some ds[n] := by
        rw [hE, List.getElem?_append_right (by simp; omega)]
        simp [Nat.min_eq_left (Nat.le_of_lt hlt)]
      have g1 : getP ks (putP ks d0 (.lst E)) = some (.lst E) := getP_putP hg
      have g2 : getP (ks ++ [n]) (putP ks d0 (.lst E)) = some ds[n] := by
        rw [getP_snoc g1]
        show (E[n]?).bind (getP []) = _
        rw [hEn]; rfl
      have e1 : (ev.set i (some (Md.dp, putP ks d0 (.lst E)))).set i none = ev.set i none := List.set_set _
      have s1 := hs ds[n] (List.getElem_mem hlt)
      have tl : t < (ev.set i none).length := by rw [List.length_set]; exact ht.1
      have hk := holAt_nx (i := i) (t := t) (pn := pn) (ks := ks ++ [n]) (s := s) (ev := ev.set i (some (Md.dp, putP ks d0 (.lst E)))) (d' := g ds[n]) (List.getElem?_set_self il) g2 ⟨by rw [List.length_set]; exact ht.1, ht.2⟩ (by rw [e1]; exact s1) (List.getElem?_set_self tl) (by rw [List.getElem?_set_ne ht.2]; exact List.getElem?_set_self il) (hl _ (List.getElem_mem hlt))
      unfold holGo
      rw [← hE, hk]
      dsimp only
      have e2 : (((ev.set i none).set t (some (Md.dp, g ds[n]))).set t none).set i (some (Md.dp, putP (ks ++ [n]) (putP ks d0 (.lst E)) (g ds[n]))) = ev.set i (some (Md.dp, putP ks d0 (.lst ((ds.take (n + 1)).map g ++ ds.drop (n + 1))))) := by
        rw [List.set_set, putP_snoc g1, putP_putP]
        have e3 : (ev.set i none).set t none = ev.set i none := set_none fun md z => by
          rw [List.getElem?_set_ne ht.2.symm, hnt] at z; cases z
        rw [e3, List.set_set]
        congr 5
        rw [hE]
        have := take_step (xs := ds.map g) (ys := ds) (f := fun _ => g ds[n]) (by simp) hlt (z := g ds[n]) (by rw [List.getElem?_map, hd]; rfl) (fun _ => rfl)
        rw [← List.map_take, ← List.map_take] at this
        exact this
      rw [e2]
      exact ih (n + 1) (by omega)
  unfold forHolS
  rw [hp, he]
  dsimp only
  rw [hg]
  dsimp only
  have h0 := key ds.length 0 (by omega)
  rw [List.take_zero, List.map_nil, List.drop_zero, List.nil_append, putP_self hg] at h0
  have e4 : ev.set i (some (Md.dp, d0)) = ev := by
    obtain ⟨_, q⟩ := List.getElem?_eq_some_iff.mp he
    rw [← q, List.set_getElem_self]
  rw [e4] at h0
  exact h0
end T6

namespace T6
open PySem PySem.Spec PyProof.Rows L2
variable [Tbl]
/-! ### xs + ys, both given away -/
def kAddO : List Ag → Ev → Rs MD := fun as ev => match as with
  | [.tp (.dp, .lst xs), .tp (.dp, .lst ys)] => if xs.length + ys.length ≤ sizeLine then .ok (.dp, .lst (xs ++ ys)) ev else .no
  | _ => .no
section
variable {K : PySem.W.Frag} {C : Cs} {mg : Str → Option Value} {X : Cx} {W : WX} {a b e : Expr} {es : List Expr} {H H' H1 H2 : Hp} {O O' O1 O2 S S' S1 S2 L : Ps} {P P' : Nat → Prop} {σ τ : L2.St} {ev ev1 ev2 : Ev} {pos : Pos} {rs rs1 rs2 : List MD} {vs vs1 vs2 : List V}
theorem argR_tp2 {r1 r2 : MD} {tvs : List V} {trs : List MD} (ar : ArgR C H S L σ [.tp r1, .tp r2] vs tvs trs) : ∃ x y, vs = [x, y] ∧ tvs = [x, y] ∧ trs = [r1, r2] := by
  cases ar with
  | tp ar' => cases ar' with
    | tp ar2 => cases ar2; exact ⟨_, _, rfl, rfl, rfl⟩
theorem k_addO : KOk (KL K) (l2of (rAddB K)) kAddO := fun mg W σ ev O S L H as vs tvs trs ev2 O2 S2 H2 Q p ar af => by
  unfold kAddO at af
  split at af
  · rename_i xs ys
    obtain ⟨x, y, rfl, rfl, rfl⟩ := argR_tp2 ar
    split at af
    · rename_i hz
      have g : Good (KL K) H2 O2 S2 L ((x, (Md.dp, D.lst xs)) :: (y, (Md.dp, D.lst ys)) :: ents ev2 σ) := p.good
      obtain ⟨ol, ⟨o1, o', rfl, ⟨r1, t1⟩, ⟨o2, o3, rfl, ⟨r2, t2⟩, h3⟩⟩, nd, mm⟩ := g.ex
      obtain ⟨a, us, f1, rfl, rr1, ⟨q1, rfl⟩ | ⟨q1, _⟩⟩ := r1
      rotate_left
      · exact q1.elim
      obtain ⟨b, ws, f2, rfl, rr2, ⟨q2, rfl⟩ | ⟨q2, _⟩⟩ := r2
      rotate_left
      · exact q2.elim
      refine ⟨_, _, rfl, .inr (.inl ⟨a, b, us, ws, rfl, rfl, .inl q1, .inl q2, by rw [rr1.length, rr2.length]; exact hz, fun q hq => ?_⟩)⟩
      have nd1 := List.nodup_append.mp nd
      have nd2 := List.nodup_append.mp nd1.2.1
      have own : ∀ c, c ∈ f1 ++ f2 ∨ c ∈ o3 → O2 c := fun c h => (mm c).mp (by
        rcases h with h | h
        · rcases List.mem_append.mp h with h | h <;> simp [h]
        · simp [h])
      have lv : ∀ c, O2 c → c ≠ q := fun c h z => (p.good.trk c h).ne (by rw [z]; exact hq)
      have gl : Go (fun _ => False) S2 H2 (fun _ => False) S2 (upd H2 q (.lst (us ++ ws))) := Go.laid hq
      have kp : ∀ {fp : List Addr}, (∀ c ∈ fp, O2 c) → Kp fp H2 (upd H2 q (.lst (us ++ ws))) := fun h => gl.kp (fun _ z => z.elim) (fun _ _ z => z) fun c hc => (p.good.trk c (h c hc)).lv
      have rr : Reps RF (upd H2 q (.lst (us ++ ws))) (xs ++ ys) (us ++ ws) (f1 ++ f2) := (rr1.append rr2).kp (kp fun c h => own c (.inl h))
      have p' : Pst (KL K) L (fun _ => True) σ ev O S H [(Md.dp, D.lst xs), (Md.dp, D.lst ys)] ev2 [.ref a, .ref b] σ O2 S2 (upd H2 q (.lst (us ++ ws))) := Pst.laid p hq
      have g' : Good (KL K) (upd H2 q (.lst (us ++ ws))) O2 S2 L ((V.ref a, (Md.dp, D.lst xs)) :: (V.ref b, (Md.dp, D.lst ys)) :: ents ev2 σ) := p'.good
      have h3' : Ents (KL K) (upd H2 q (.lst (us ++ ws))) S2 L (ents ev2 σ) o3 := by
        exact h3.go gl (fun _ z => z.elim) (fun _ _ z => z) (fun _ z => z.elim)
      have hqn : ¬ S2 q ∧ ¬ L q := ⟨fun z => p.good.lv q (.inl z) hq, fun z => p.good.lv q (.inr z) hq⟩
      refine af (.ref q) _ (fun c => c = q ∨ c ∈ f1 ++ f2 ∨ c ∈ o3) S2 ⟨p.fit, p.lk, rfl, by simp, ?_, ?_⟩
      · show Good (KL K) _ _ S2 L ((V.ref q, (Md.dp, D.lst (xs ++ ys))) :: ents ev2 σ)
        refine ⟨⟨(q :: (f1 ++ f2)) ++ o3, ⟨q :: (f1 ++ f2), o3, rfl, ⟨⟨q, us ++ ws, f1 ++ f2, rfl, rr, .inl ⟨.inl upd_same, rfl⟩⟩, fun c h => ?_⟩, h3'⟩, ?_, fun c => ?_⟩, fun c h => ?_, g'.sl, g'.lv, g'.tab⟩
        · rcases List.mem_cons.mp h with rfl | h
          · exact .inl ⟨_, upd_same⟩
          · exact g'.trk c (own c (.inl h))
        · rw [List.cons_append]
          refine List.nodup_cons.mpr ⟨fun h => ?_, ?_⟩
          · rcases List.mem_append.mp h with h | h
            · exact lv q (own q (.inl h)) rfl
            · exact lv q (own q (.inr h)) rfl
          · have s : List.Sublist ((f1 ++ f2) ++ o3) ((a :: f1) ++ ((b :: f2) ++ o3)) := by
              rw [List.append_assoc]
              exact (List.sublist_cons_self a f1).append ((List.sublist_cons_self b f2).append (List.Sublist.refl _))
            exact s.nodup nd
        · rw [List.cons_append, List.mem_cons, List.mem_append]
        · rcases h with rfl | h
          · exact hqn
          · exact g'.os c (own c h)
      · have go := p'.go
        refine ⟨go.keep, go.code, go.live, fun c h => ?_, go.monS, go.newS⟩
        rcases h with rfl | h
        · right
          by_cases z : H c = none
          · exact z
          · exact absurd hq (p.go.live c z)
        · exact go.newO c (own c h)
    · exact af.elim
  · exact af.elim
end
@[simp] theorem x_addO {xs ys : List D} {ev : Ev} : kAddO [.tp (.dp, .lst xs), .tp (.dp, .lst ys)] ev = if xs.length + ys.length ≤ sizeLine then .ok (.dp, .lst (xs ++ ys)) ev else .no := rfl
end T6

namespace T6
open PySem PySem.Spec PyProof.Rows L2
variable [Tbl]
/-! ### t + u of tuples, both given away -/
def kAddT : List Ag → Ev → Rs MD := fun as ev => match as with
  | [.tp (.dp, .tup xs), .tp (.dp, .tup ys)] => if xs.length + ys.length ≤ sizeLine then .ok (.dp, .tup (xs ++ ys)) ev else .no
  | _ => .no
section
variable {K : PySem.W.Frag} {C : Cs} {mg : Str → Option Value} {X : Cx} {W : WX} {a b e : Expr} {es : List Expr} {H H' H1 H2 : Hp} {O O' O1 O2 S S' S1 S2 L : Ps} {P P' : Nat → Prop} {σ τ : L2.St} {ev ev1 ev2 : Ev} {pos : Pos} {rs rs1 rs2 : List MD} {vs vs1 vs2 : List V}
theorem Pst.tups {C : Cs} {v1 v2 : V} {xs ys : List D} {r : MD} (p : Pst C L (fun _ => True) σ ev O S H [(Md.dp, D.tup xs), (Md.dp, D.tup ys)] ev2 [v1, v2] σ O2 S2 H2) {q : Addr} (h : ∀ us ws f1 f2, Reps RF H2 xs us f1 → Reps RF H2 ys ws f2 → (∃ a, v1 = .ref a ∧ Rd H2 a (.tup us)) → (∃ b, v2 = .ref b ∧ Rd H2 b (.tup ws)) → Rd H2 q (.tup (us ++ ws))) :
    Pst C L (fun _ => True) σ ev O S H [(Md.dp, D.tup (xs ++ ys))] ev2 [.ref q] σ O2 S2 H2 := by
  have g : Good C H2 O2 S2 L ((v1, (Md.dp, D.tup xs)) :: (v2, (Md.dp, D.tup ys)) :: ents ev2 σ) := p.good
  obtain ⟨ol, ⟨o1, o', rfl, ⟨r1, t1⟩, ⟨o2, o3, rfl, ⟨r2, t2⟩, h3⟩⟩, nd, mm⟩ := g.ex
  obtain ⟨a, us, e1, q1, rr1⟩ := r1
  obtain ⟨b, ws, e2, q2, rr2⟩ := r2
  have rd := h us ws o1 o2 rr1 rr2 ⟨a, e1, q1⟩ ⟨b, e2, q2⟩
  refine ⟨p.fit, p.lk, rfl, by simp, ?_, p.go⟩
  show Good C H2 O2 S2 L ((V.ref q, (Md.dp, D.tup (xs ++ ys))) :: ents ev2 σ)
  refine ⟨⟨(o1 ++ o2) ++ o3, ⟨o1 ++ o2, o3, rfl, ⟨⟨q, us ++ ws, rfl, rd, rr1.append rr2⟩, fun c h => (List.mem_append.mp h).elim (t1 c) (t2 c)⟩, h3⟩, by rw [List.append_assoc]; exact nd, fun c => by rw [List.append_assoc]; exact mm c⟩, g.os, g.sl, g.lv, g.tab⟩
theorem k_addT : KOk (KL K) (l2of (rAddB K)) kAddT := fun mg W σ ev O S L H as vs tvs trs ev2 O2 S2 H2 Q p ar af => by
  unfold kAddT at af
  split at af
  · rename_i xs ys
    obtain ⟨x, y, rfl, rfl, rfl⟩ := argR_tp2 ar
    split at af
    · rename_i hz
      have g : Good (KL K) H2 O2 S2 L ((x, (Md.dp, D.tup xs)) :: (y, (Md.dp, D.tup ys)) :: ents ev2 σ) := p.good
      obtain ⟨ol, ⟨o1, o', rfl, ⟨r1, t1⟩, ⟨o2, o3, rfl, ⟨r2, t2⟩, h3⟩⟩, nd, mm⟩ := g.ex
      obtain ⟨a, us, rfl, sq, rr⟩ := r1
      obtain ⟨b, ws, rfl, sq2, rr2⟩ := r2
      have uq : ∀ {H3 : Hp} {a b : Addr} {us ws us' ws' : List V}, Rd H3 a (.tup us) → Rd H3 b (.tup ws) → (∃ a', V.ref a = .ref a' ∧ Rd H3 a' (.tup us')) → (∃ b', V.ref b = .ref b' ∧ Rd H3 b' (.tup ws')) → us = us' ∧ ws = ws' := by
        rintro H3 a b us ws us' ws' h1 h2 ⟨a', e1, g1⟩ ⟨b', e2, g2⟩
        cases e1
        cases e2
        exact ⟨rdt_uniq h1 g1, rdt_uniq h2 g2⟩
      refine ⟨_, _, rfl, .inr (.inr ⟨a, b, us, ws, rfl, rfl, .inl sq, .inl sq2, by rw [rr.length, rr2.length]; exact hz, fun e => ?_, fun _ e => ?_, fun _ _ q hq => ?_⟩)⟩
      · refine af _ _ _ _ (Pst.tups (r := (.dp, .non)) p fun us' ws' f1 f2 s1 s2 z1 z2 => ?_)
        obtain ⟨rfl, rfl⟩ := uq sq sq2 z1 z2
        rw [e]; exact sq2
      · refine af _ _ _ _ (Pst.tups (r := (.dp, .non)) p fun us' ws' f1 f2 s1 s2 z1 z2 => ?_)
        obtain ⟨rfl, rfl⟩ := uq sq sq2 z1 z2
        rw [e, List.append_nil]; exact sq
      · have p' : Pst (KL K) L (fun _ => True) σ ev O S H [(Md.dp, D.tup xs), (Md.dp, D.tup ys)] ev2 [.ref a, .ref b] σ O2 S2 (upd H2 q (.tup (us ++ ws))) := Pst.laid p hq
        have gl : Go (fun _ => False) S2 H2 (fun _ => False) S2 (upd H2 q (.tup (us ++ ws))) := Go.laid hq
        have kp : Kp [] H2 (upd H2 q (.tup (us ++ ws))) := gl.kp (fun _ z => z.elim) (fun _ _ z => z) (by simp)
        refine af _ _ _ _ (Pst.tups (r := (.dp, .non)) p' fun us' ws' f1 f2 s1 s2 z1 z2 => ?_)
        obtain ⟨rfl, rfl⟩ := uq (kp.rdt sq) (kp.rdt sq2) z1 z2
        exact .inl upd_same
    · exact af.elim
  · exact af.elim
end
@[simp] theorem x_addT {xs ys : List D} {ev : Ev} : kAddT [.tp (.dp, .tup xs), .tp (.dp, .tup ys)] ev = if xs.length + ys.length ≤ sizeLine then .ok (.dp, .tup (xs ++ ys)) ev else .no := rfl
end T6

namespace T6
open PySem PySem.Spec PyProof.Rows L2
variable [Tbl]
/-! ### insert at a path -/
open Classical in
noncomputable def insPK (i : Nat) (ks : List Nat) (d0 : D) (ev : Ev) (n : Int) (x : Rs MD) : Rs MD := match x with
  | .ok r ev2 => if ev2 = ev.set i (some (.lk, d0)) then match mutG (insU n.toNat) i ks r ev with
      | some ev3 => .ok (.dp, .non) ev3
      | none => .no
    else .no
  | _ => .no
open Classical in
noncomputable def insPJ (i : Nat) (ks : List Nat) (d0 : D) (ev : Ev) (g : Ev → Rs MD) (x : Rs MD) : Rs MD := match x with
  | .ok (_, .int n) ev1 => if insOk n = true ∧ ev1 = ev.set i (some (.lk, d0)) then insPK i ks d0 ev n (g (ev.set i (some (.lk, d0)))) else .no
  | _ => .no
noncomputable def insPE (i : Nat) (p : Ev → Option (List Nat)) (f g : Ev → Rs MD) : Ev → Rs MD := fun ev => match p ev, ev[i]? with
  | some ks, some (some (.dp, d0)) => insPJ i ks d0 ev g (f (ev.set i (some (.lk, d0))))
  | _, _ => .no
section
variable {K : PySem.W.Frag} {C : Cs} {mg : Str → Option Value} {X : Cx} {W : WX} {a b e e2 : Expr} {H H' H1 H2 : Hp} {O O' O1 O2 S S' S1 S2 S3 L L3 : Ps} {P P' : Nat → Prop} {σ τ : L2.St} {ev ev1 ev2 : Ev} {pos p2 : Pos} {rs rs1 rs2 : List MD} {vs vs1 vs2 : List V} {es : List En}
theorem e_insP {i : Nat} {p : Ev → Option (List Nat)} {f g : Ev → Rs MD} {o : Expr} {apos : Pos} (hv : PE X o (tPth (KL X.K) i p)) (he : PE X e (tE (KL X.K) mg W f)) (he2 : PE X e2 (tE (KL X.K) mg W g))
    (hbase : attributeBase o "insert" X.env (eval o X.env) = eval o X.env := by rfl)
    (hfew : ((backTo pos (starEach [e, e2] X.env)).all (fun x => !x.1) && (backToKw pos (keywordEach [] X.env)).all (fun x => x.1.isSome)
      && decide ([e, e2].length + ([] : List Keyword).length + (if ([] : List Keyword).isEmpty then 0 else 1) < 30)) = true := by rfl)
    (hline : (apos.endLine == pos.line) = true := by rfl) (hs : starEach [e, e2] X.env = (false, eval e X.env) :: starEach [e2] X.env := by rfl) (hs2 : starEach [e2] X.env = (false, eval e2 X.env) :: starEach [] X.env := by rfl) (hplain : (backTo pos (starEach [e2] X.env)).any (·.1) = false := by rfl) :
    PE X (.Call (.Attribute o "insert" apos) [e, e2] [] pos) (tE (KL X.K) mg W (insPE i p f g)) :=
  pe_weak (pe_bm PySem.F.plainAttrs_list PySem.F.slot_list_insert PySem.F.type_list_insert mt_insert hv (pa_cons he (pa_cons he2 pa_nil hs2) hs) hbase hfew hline hs hplain) fun σ H Q => by
  rintro ⟨ev, O, S, L, ft, gd, k⟩
  unfold insPE at k
  split at k
  · rename_i ks d0 hp he
    obtain ⟨v0, e1, pm, f0⟩ := fit_get ft he
    have ilt : i < ev.length := (List.getElem?_eq_some_iff.mp he).1
    obtain ⟨pq, fq⟩ := fit_put (md := (Md.lk, d0)) ft ilt e1
    unfold insPJ at k
    split at k
    · rename_i m1 n ev1 hf
      split at k
      · rename_i hn
        obtain ⟨hn, hc1⟩ := hn
        subst hc1
        cases hf2 : g (ev.set i (some (Md.lk, d0))) with
        | ex c q ev2 => rw [hf2] at k; exact k.elim
        | no => rw [hf2] at k; exact k.elim
        | ok r ev2 =>
        rw [hf2] at k
        unfold insPK at k
        dsimp only at k
        split at k
        · rename_i hc
          subst hc
          split at k
          · rename_i ev3 e7
            obtain ⟨m', d0', ds, he', hg, hk⟩ := mutG_inv e7
            rw [he] at he'
            cases he'
            refine ⟨ev, O, S, L, ft, gd, .dp, d0, ks, _, he, hp, hg, hk, fun v0' t hv hat => ⟨pth_ty ft gd he hg hk hv hat, ?_⟩⟩
            rw [e1] at hv
            cases hv
            obtain ⟨OX, OE, gX, gE, m, d⟩ := Good.parts (es := [(v0, (Md.dp, d0))]) (fs := ents (ev.set i none) σ) (gd.perm pm)
            obtain ⟨ol, ⟨o1, o2, rfl, ⟨r0, tk⟩, ho2⟩, nd, mX⟩ := gX.ex
            obtain rfl : o2 = [] := ho2
            rw [List.append_nil] at nd mX
            obtain ⟨oE, eE, ndE, mE⟩ := gE.ex
            have upL : ∀ {l : List En} {o : List Addr}, Ents (KL X.K) H S L l o → Ents (KL X.K) H S (fun a => L a ∨ OX a) l o := by
              intro l
              induction l with
              | nil => intro o h; exact h
              | cons y l ih =>
                rintro o ⟨p1, p2, rfl, h1, h2⟩
                refine ⟨p1, p2, rfl, ?_, ih h2⟩
                obtain ⟨v, m, d⟩ := y
                cases m
                · exact h1
                · exact h1
                · exact h1
                · obtain ⟨e, fp, r, k⟩ := h1; exact ⟨e, fp, r, fun a ha => (k a ha).imp .inl id⟩
            have good : Good (KL X.K) H OE S (fun a => L a ∨ OX a) (ents (ev.set i (some (Md.lk, d0))) σ) := by
              refine Good.perm (es := (v0, (Md.lk, d0)) :: ents (ev.set i none) σ) ⟨⟨oE, ⟨[], oE, rfl, ⟨rfl, o1, r0.mono, fun a ha => .inl (.inr ((mX a).mp ha))⟩, upL eE⟩, ndE, mE⟩, fun a h => ⟨(gE.os a h).1, fun z => z.elim (gE.os a h).2 fun z => d a z h⟩, fun a z => fun y => y.elim (gE.sl a z) fun y => (gX.os a y).1 z, fun a z => ?_, gE.tab⟩ pq.symm
              rcases z with z | z | z
              · exact gE.lv a (.inl z)
              · exact gE.lv a (.inr z)
              · exact (gX.trk a z).ne
            refine ⟨_, OE, S, _, fq, good, ?_⟩
            rw [hf]
            intro v1 H0 O1' S1' p1
            obtain ⟨fp, rr⟩ := p1.rep1
            cases rep_int rr
            obtain ⟨O1d, q1⟩ := p1.drop
            refine ⟨_, O1d, S1', _, q1.fit, q1.good, ?_⟩
            rw [hf2]
            intro v H1 O2 S2 p2a
            have p := q1.trans0 p2a
            have p2 : Good (KL X.K) H1 O2 S2 (fun a => L a ∨ OX a) ((v, r) :: (v0, (Md.lk, d0)) :: ents (ev.set i none) σ) := p.good.perm (pq.cons _)
            have nX2 : ∀ a, OX a → ¬ O2 a := fun a h z => (p2.os a z).2 (.inr h)
            obtain ⟨ol2, ⟨oR, o', rfl, hR, ⟨oS, oR2, rfl, hS, hE⟩⟩, nd2, m2⟩ := p2.ex
            have zS : oS = [] := hS.1
            subst zS
            rw [List.nil_append] at nd2 m2
            have hE3 : Ents (KL X.K) H1 S2 L (ents (ev.set i none) σ) oR2 := ents_backL p.go gE.trk gE.os eE hE
            have kp : Kp o1 H H1 := p.go.kp gE.trk (fun a ha => d a ((mX a).mp ha)) (rep_lv r0)
            have nl := p.nl r (by simp)
            have hR3 : Ent (KL X.K) H1 S2 L (v, r) oR := by
              obtain ⟨m', d'⟩ := r
              cases m'
              · exact hR
              · exact hR
              · exact hR
              · exact absurd rfl nl
            have p3 : Pst (KL X.K) L (fun _ => True) σ ev O S H [r] ev [v] σ (fun a => O2 a ∨ OX a) S2 H1 := by
              refine ⟨ft, LkS.refl _ _, rfl, p.nl, ?_, ?_⟩
              · refine Good.perm (es := (v, r) :: (v0, (Md.dp, d0)) :: ents (ev.set i none) σ) ⟨⟨oR ++ (o1 ++ oR2), ⟨oR, o1 ++ oR2, rfl, hR3, ⟨o1, oR2, rfl, ⟨r0.kp kp, fun a ha => ?_⟩, hE3⟩⟩, ?_, fun a => ?_⟩, fun a h => ?_, fun a h z => p2.sl a h (.inl z), fun a h => p2.lv a (h.imp id .inl), p2.tab⟩ (pm.symm.cons _)
                · have e := kp.own a ha
                  rcases tk a ha with ⟨xs, q⟩ | ⟨xs, q⟩
                  · exact .inl ⟨xs, by rw [e]; exact q⟩
                  · exact .inr ⟨xs, by rw [e]; exact q⟩
                · have hp : (oR ++ (o1 ++ oR2)).Perm (o1 ++ (oR ++ oR2)) := by
                    rw [← List.append_assoc, ← List.append_assoc]
                    exact List.perm_append_comm.append_right _
                  refine hp.nodup_iff.mpr (List.nodup_append.mpr ⟨nd, nd2, fun a ha b hb e => ?_⟩)
                  subst e
                  exact nX2 a ((mX a).mp ha) ((m2 a).mp hb)
                · rw [List.mem_append, List.mem_append]
                  have := m2 a
                  rw [List.mem_append] at this
                  rw [← this, ← mX a]
                  constructor
                  · rintro (h | h | h)
                    · exact .inl (.inl h)
                    · exact .inr h
                    · exact .inl (.inr h)
                  · rintro ((h | h) | h)
                    · exact .inl h
                    · exact .inr (.inr h)
                    · exact .inr (.inl h)
                · rcases h with h | h
                  · exact ⟨(p2.os a h).1, fun z => (p2.os a h).2 (.inl z)⟩
                  · exact ⟨fun z => p2.sl a z (.inr h), (gX.os a h).2⟩
              · refine ⟨fun a o h n => p.go.keep a o h fun z => n ((m a).mpr (.inr z)), p.go.code, p.go.live, fun a h => ?_, p.go.monS, fun a h => (p.go.newS a h).imp id fun z => z.imp (fun z => (m a).mpr (.inr z)) id⟩
                rcases h with h | h
                · exact (p.go.newO a h).imp (fun z => (m a).mpr (.inr z)) id
                · exact .inl ((m a).mpr (.inl h))
            obtain ⟨q, us, ds2, eq, ed, hq, hl, ⟨ds', hu⟩, O', S', p4⟩ := mut_ok ins_mut p3 e1 he hg (hat.kp r0 tk kp) e7
            subst eq
            cases ed
            unfold insU at hu
            split at hu
            · rename_i hz
              refine ⟨_, us, n, v, rfl, rfl, hq, by rw [hl]; exact hz, (insOk_iff.mp hn).1, by have := insOk_iff.mp hn; omega, ?_⟩
              obtain ⟨O4, p5⟩ := p4.flat (d := .non) (v := .non) (f := []) rfl ⟨rfl, rfl⟩
              exact k _ _ _ _ p5
            · cases hu
          · exact k.elim
        · exact k.elim
      · exact k.elim
    · exact k.elim
  · exact k.elim
end
@[simp] theorem x_insPK {i : Nat} {ks : List Nat} {d0 : D} {ev ev2 : Ev} {n : Int} {r : MD} : insPK i ks d0 ev n (.ok r ev2) = if ev2 = ev.set i (some (.lk, d0)) then (match mutG (insU n.toNat) i ks r ev with
      | some ev3 => .ok (.dp, .non) ev3
      | none => .no)
    else .no := by
  unfold insPK
  dsimp only
@[simp] theorem x_insPJ {i : Nat} {ks : List Nat} {d0 : D} {ev ev1 : Ev} {g : Ev → Rs MD} {m : Md} {n : Int} (h : 0 ≤ n) (h2 : n < 1000000) : insPJ i ks d0 ev g (.ok (m, .int n) ev1) = if ev1 = ev.set i (some (.lk, d0)) then insPK i ks d0 ev n (g (ev.set i (some (.lk, d0)))) else .no := by
  unfold insPJ
  dsimp only
  rw [insOk_iff.mpr ⟨h, h2⟩]
  simp
@[simp] theorem x_insPE {i : Nat} {p : Ev → Option (List Nat)} {f g : Ev → Rs MD} {ev : Ev} : insPE i p f g ev = (match p ev, ev[i]? with
  | some ks, some (some (.dp, d0)) => insPJ i ks d0 ev g (f (ev.set i (some (.lk, d0))))
  | _, _ => .no) := rfl
end T6

namespace T6
open PySem PySem.Spec PyProof.Rows L2
variable [Tbl]
/-! ### what is behind the first ones of a tuple, walked -/
def srcSl (nm : Bool) (lo : Int) (f : Ev → Option Pv) : Ev → Rs (List (List MD)) := fun ev => match vwI f ev with
  | some (m, .tup ds) => if HT.sIx ds.length 0 (some lo) = 0 then .no else match itsD nm m (.tup (cutD ds (some lo) none)) with
    | some is => .ok is ev
    | none => .no
  | _ => .no
section
variable {K : PySem.W.Frag} {C : Cs} {mg : Str → Option Value} {X : Cx} {W : WX} {a b e e2 : Expr} {pos p2 : Pos}
theorem i_slV {nm : Bool} {lo : Int} {f : Ev → Option Pv} {tg : Expr} (he : PE X a (tP (KL X.K) f)) (hb : PE X b (tP (KL X.K) (pC (.int lo)))) :
    PI X tg (.Subscript a (.Slice (some b) none none p2) pos) (tI (KL X.K) X.K mg W nm (srcSl nm lo f)) := pi_weak (pi_seq (pe_slice sl_all he (po_some hb) po_none)) fun σ H R => by
  rintro ⟨ev, O, S, L, ft, gd, k⟩
  unfold srcSl at k
  split at k
  · rename_i m ds hv
    split at k
    · exact k.elim
    · rename_i hc
      split at k
      · rename_i is hi
        obtain ⟨p, hp, _, hm, ok⟩ := vwI_ok (C := KL X.K) (H := H) (S := S) (L := L) (σ := σ) hv
        refine ⟨ev, O, S, L, ft, gd, p, hp, fun v hx => ⟨ev, O, S, L, ft, gd, .fl (.int lo), rfl, fun y hy => ?_⟩⟩
        obtain ⟨fp, r, s, s2⟩ := ok v hx
        have hy2 : y = .int lo := rp_int hy.2
        subst hy2
        refine ⟨lo, rfl, ?_⟩
        obtain ⟨a0, xs, e, q0, rr⟩ := r
        subst e
        have hl : xs.length = ds.length := rr.length
        refine .inr ⟨a0, xs, rfl, .inl q0, fun hn => absurd (by rw [← hl]; exact hn.1) hc, fun _ q hq => ?_⟩
        obtain ⟨fq, r3, s3⟩ := reps_cut (lo := some lo) (hi := none) rr
        have lv := reps_live r3
        have r4 : Rep (KL X.K) (upd H q (.tup (cutV xs (some lo) none))) (.tup (cutD ds (some lo) none)) (.ref q) fq := ⟨q, _, rfl, .inl upd_same, r3.kp (upd_kp hq lv)⟩
        exact seq_end hi hm r4 (fun a ha => s a (s3 a ha)) (fun z a ha => s2 z a (s3 a ha)) fun J so => k J _ O S ⟨ft, LkS.refl _ _, rfl, by simp, gd.laid hq, Go.laid hq⟩ so
      · exact k.elim
  · exact k.elim
end
theorem sIx1 {n : Nat} : HT.sIx (n + 1) 0 (some 1) = 1 := by
  rw [show (1 : Int) = ((1 : Nat) : Int) by rfl, HT.sIx_nat]
  omega
theorem cut1 {d : D} {ds : List D} : cutD (d :: ds) (some 1) none = ds := by
  unfold cutD
  rw [List.length_cons, sIx1, HT.sIx_none]
  simp
@[simp] theorem x_srcSl1 {nm : Bool} {f : Ev → Option Pv} {ev : Ev} : srcSl nm 1 f ev = (match vwI f ev with
  | some (m, .tup (_ :: ds)) => (match itsD nm m (.tup ds) with
    | some is => .ok is ev
    | none => .no)
  | _ => .no) := by
  unfold srcSl
  cases hv : vwI f ev with
  | none => rfl
  | some w =>
    obtain ⟨m, d⟩ := w
    cases d with
    | tup ds =>
      cases ds with
      | nil => dsimp only; rw [if_pos (by simp [HT.sIx])]
      | cons d ds =>
        dsimp only
        rw [List.length_cons, sIx1, if_neg (by decide), cut1]
    | _ => rfl
end T6

namespace T6
open PySem PySem.Spec PyProof.Rows L2
variable [Tbl]
open Cv
/-! ### f(..).index(x) -/
noncomputable def idxK (h : Ev → Option Pv) (r : MD) (ev1 : Ev) : Rs MD := match h ev1 with
  | some pv => match gIdx r.2 pv.d with
    | some z => .ok (.dp, z) ev1
    | none => .no
  | none => .no
noncomputable def idxM (f : Ev → Rs MD) (h : Ev → Option Pv) : Ev → Rs MD := fun ev => (f ev).bind (idxK h)
/-! ### try with some clauses -/
def quS : Fl → Fl
  | .ex _ _ _ => .no
  | x => x
noncomputable def hnK [Cv] : List (Option Nat × List (Str × Bool) × (Ev → Fl)) → Str → Option MD → Ev → Fl
  | [], c, p, ev1 => .ex c p ev1
  | (oi, tbl, su) :: r, c, p, ev1 => match tbl.lookup c with
    | some true => match oi with
      | some i => errK i su c p ev1
      | none => quS (su ev1)
    | some false => hnK r c p ev1
    | none => .no
noncomputable def triS [Cv] (hs : List (Option Nat × List (Str × Bool) × (Ev → Fl))) (b : Ev → Fl) : Ev → Fl := fun ev => match b ev with
  | .ex c p ev1 => hnK hs c p ev1
  | x => x
section
variable {K : PySem.W.Frag} {C : Cs} {mg : Str → Option Value} {X : Cx} {W : WX} {a b e : Expr} {es : List Expr} {H H' H1 H2 : Hp} {O O' O1 O2 S S' S1 S2 L : Ps} {P P' : Nat → Prop} {σ τ : L2.St} {ev ev1 ev2 : Ev} {pos p2 : Pos} {rs rs1 rs2 : List MD} {vs vs1 vs2 : List V}
theorem e_idxM {f : Ev → Rs MD} {h : Ev → Option Pv} {o e : Expr} {apos pos : Pos} (hu : X.A.units + 65 < cLine) (ho : PE X o (tE (KL X.K) mg W f)) (he : PE X e (tP (KL X.K) h))
    (hbase : attributeBase o "index" X.env (eval o X.env) = eval o X.env := by rfl)
    (hfew : ((backTo pos (starEach [e] X.env)).all (fun x => !x.1) && (backToKw pos (keywordEach [] X.env)).all (fun x => x.1.isSome)
      && decide ([e].length + ([] : List Keyword).length + (if ([] : List Keyword).isEmpty then 0 else 1) < 30)) = true := by rfl)
    (hline : (apos.endLine == pos.line) = true := by rfl) (hs : starEach [e] X.env = (false, eval e X.env) :: starEach [] X.env := by rfl) (hplain : (backTo pos (starEach [] X.env)).any (·.1) = false := by rfl) :
    PE X (.Call (.Attribute o "index" apos) [e] [] pos) (tE (KL X.K) mg W (idxM f h)) :=
  pe_weak (pe_bm PySem.F.plainAttrs_list PySem.F.slot_list_index PySem.F.type_list_index (mt_indexD hu) ho (pa_cons he pa_nil hs) hbase hfew hline hs hplain) fun σ H Q => by
  rintro ⟨ev, O, S, L, ft, gd, k⟩
  refine ⟨ev, O, S, L, ft, gd, aft_bind k fun r ev1 k1 v H1 O1 S1 p => ?_⟩
  unfold idxK at k1
  split at k1
  · rename_i b hb
    split at k1
    · rename_i d hd
      obtain ⟨fp, rr⟩ := p.rep1
      obtain ⟨O2, q⟩ := p.drop
      have hl : ∃ ds, r.2 = .lst ds := by
        unfold gIdx at hd
        split at hd
        · rename_i ds e0; exact ⟨ds, e0⟩
        · cases hd
      refine ⟨?_, ev1, O2, S1, L, q.fit, q.good, b, hb, fun y hy => ?_⟩
      · obtain ⟨ds, el⟩ := hl
        have r1 := rr
        rw [el] at r1
        obtain ⟨a, vs, g, rfl, rs, sq⟩ := r1
        exact .inl ⟨rfl, vs, sq_of sq⟩
      · obtain ⟨f2, r2⟩ := pv_rep hy
        refine (idx_core rr r2 hd fun v fl rv => ?_).2
        obtain ⟨O4, p4⟩ := q.flat fl rv
        exact k1 v H1 O4 S1 p4
    · exact k1.elim
  · exact k1.elim
/-- what the clauses wish -/
def wHs (K : PySem.W.Frag) (Wout : WX) (D : Ends) : List (Value × Option Nat × TS) → WX
  | [] => Wout
  | (c, none, ts) :: r => fun cls d σ H => ∃ b, PySem.W.exmOne K cls c = some b ∧ (b = true → ts D σ H) ∧ (b = false → wHs K Wout D r cls d σ H)
  | (c, some i, ts) :: r => fun cls d σ H => ∃ b, PySem.W.exmOne K cls c = some b ∧ (b = true → ∀ a, H a = none → ts { nx := fun σ' H' => D.nx (σ'.set i none) H', rt := D.rt, bk := fun σ' H' => D.bk (σ'.set i none) H', ct := fun σ' H' => D.ct (σ'.set i none) H' } (σ.set i (some (.ref a))) (upd H a (ErO cls d a))) ∧
    (b = false → wHs K Wout D r cls d σ H)
inductive HdsT [Cv] (X : Cx) (P : Nat → Prop) : List ExceptHandler → List (Option Nat × List (Str × Bool) × (Ev → Fl)) → List (Value × Option Nat × TS) → Prop
  | nil : HdsT X P [] [] []
  | named {x n : Str} {c : Value} {i : Nat} {suite : List Stmt} {b₀ : Stmt} {np pos' : Pos} {tbl : List (Str × Bool)} {su : Ev → Fl} {hds : List ExceptHandler} {hs : List (Option Nat × List (Str × Bool) × (Ev → Fl))} {l : List (Value × Option Nat × TS)}
      (hP : ¬ P i) (hi : X.N[i]? = some n) (hln : X.env.kindOf n = some .local) (hc : Names X x c)
      (ht : ∀ nm t, tbl.lookup nm = some t → X.mg nm = some (cv nm) ∧ PySem.W.exmOne X.K (cv nm) c = some t)
      (hsu : ∀ (a : Addr) (pn : List (Addr × Obj)), PSs (X.suite a pn) (b₀ :: suite) (tS (KL X.K) X.mg P W0 su)) (r : HdsT X P hds hs l) :
      HdsT X P (.ExceptHandler (some (.Name x np)) (some n) (b₀ :: suite) pos' :: hds) ((some i, tbl, su) :: hs) ((c, some i, tS (KL X.K) X.mg P W0 su) :: l)
  | bare {x : Str} {c : Value} {suite : List Stmt} {b₀ : Stmt} {np pos' : Pos} {tbl : List (Str × Bool)} {su : Ev → Fl} {hds : List ExceptHandler} {hs : List (Option Nat × List (Str × Bool) × (Ev → Fl))} {l : List (Value × Option Nat × TS)}
      (hc : Names X x c)
      (ht : ∀ nm t, tbl.lookup nm = some t → X.mg nm = some (cv nm) ∧ PySem.W.exmOne X.K (cv nm) c = some t)
      (hsu : ∀ (a : Addr) (pn : List (Addr × Obj)), PSs (X.suite a pn) (b₀ :: suite) (tS (KL X.K) X.mg P W0 su)) (r : HdsT X P hds hs l) :
      HdsT X P (.ExceptHandler (some (.Name x np)) none (b₀ :: suite) pos' :: hds) ((none, tbl, su) :: hs) ((c, none, tS (KL X.K) X.mg P W0 su) :: l)
theorem ps_tri [Cv] {h₀ : ExceptHandler} {hds : List ExceptHandler} {hs' : List (Option Nat × List (Str × Bool) × (Ev → Fl))} {l : List (Value × Option Nat × TS)} {body : List Stmt} {tb : WX → TS} {Wout : WX} {pos : Pos} (hs : X.stack = X.env :: X.outer) (hf : X.env.frame = some X.env.locals) (hex : X.ex = []) (hN : X.N.Nodup) (tk : Takes X Wout)
    (hb : ∀ (W : WX) (pn : List (Addr × Obj)) (xe : Value → Shared → Prop), Takes (X.tr pn xe) W → PassesOwn (model X.prog X.w) X.A X.env xe → PSs (X.tr pn xe) body (tb W))
    (hh : HdsT X P (h₀ :: hds) hs' l) :
    PS X (.Try body (h₀ :: hds) [] [] pos) (fun D σ H => tb (wHs X.K Wout D l) D σ H) := by
  refine ⟨fun pins s σ H D I h => ?_⟩
  have ok := I.ok
  have hfr : X.A.frames = some (X.env :: X.outer) := by rw [ok.frames, hs]
  refine wpAny_Try_except ?_
  refine wpAny_mono ((hb (wHs X.K Wout D l) (X.pn ++ pins) (fun e s₁ => wpAny (model X.prog X.w) X.A (noteFrame e X.env) (fun _ s₂ => wpAny (model X.prog X.w) X.A (setFlight e none) (fun _ s₃ =>
    wpAny (model X.prog X.w) X.A (handleBy e X.env (h₀ :: hds)) (SP X pins D) X.xe s₃) X.xe s₂) X.xe s₁) (fun u s' xx => ?_) PassesOwn.looking).run [] s σ H D (I.toTry _) h) (fun f s1 hsp => ?_) (fun e s1 he => he)
  · -- the catch
    obtain ⟨a, B, sI, pins', σ', H', cls, d, rfl, J', nb, up, sky, na, os, ag, w⟩ := xx
    have J : Inv X pins σ' H' sI := J'.ofTry ok
    have sky' : Sky B (X.env :: X.outer) a (Zc cls d) X.env.locals s'.heap := by rw [← hs]; exact sky
    show wpAny (model X.prog X.w) X.A (noteFrame (.ref a) X.env) _ _ _
    refine Sky.land Zc.steady hfr hf sky' fun h3 fl3 up3 => ?_
    have J3 : Inv X pins σ' H' { s' with heap := h3 } := J.landed nb fl3.1 (up.trans up3) os ag
    obtain ⟨oe3, vs3, he3, hz3, hd3⟩ := fl3.there
    have notFr : ∀ {h : Heap} {o : Obj} {vs : Array Value}, h.FunFrames B (X.env :: X.outer) → h.get? a = some o → o.data = .fields vs → a ∉ frs (X.env :: X.outer) := fun {h o vs} ff e dd hm => by
      obtain ⟨_, o', e', hnf⟩ := ff.mem hm
      rw [e] at e'; cases e'
      exact hnf _ dd
    have nfr := notFr fl3.2.2.1 he3 hd3
    have nL : a ≠ X.env.locals := fun z => nfr (List.mem_filterMap.mpr ⟨X.env, List.mem_cons_self, by rw [hf, z]⟩)
    have nF : a ∉ X.fs := fun hm => by
      obtain ⟨e, he, q⟩ := List.mem_filterMap.mp hm
      exact nfr (List.mem_filterMap.mpr ⟨e, List.mem_cons_of_mem _ he, q⟩)
    have nB : B.get? a = none := fl3.2.1
    have n0 : X.s_0.heap.get? a = none := by
      cases q : X.s_0.heap.get? a with
      | none => rfl
      | some o =>
        obtain ⟨o', e1⟩ := J.base.there a o q (by rw [hex]; exact fun z => nomatch z)
        have := nb a o' e1 (by rw [hs]; exact nfr)
        rw [nB] at this; cases this
    have npin : ∀ p ∈ X.pn ++ pins, p.1 ≠ a := fun p hp z => by
      obtain ⟨e1, _, e2, e3, _⟩ := J.pin p hp
      have := nb p.1 p.2 e1 (fun hm => by
        rcases List.mem_cons.mp (J.stkSub p.1 hm) with z | z
        · exact e2 z
        · exact e3 z)
      rw [z, nB] at this; cases this
    have S3 := Inv.toSuite J3 a
    have LT : PySem.W.Looks (model X.prog X.w) h3 (typeOf (.ref a)) cls := fun A Q E s k q => wpAny_typeOf_ref (k _ _ he3) (by rw [hz3.1]; exact q)
    have go : ∀ {hds' : List ExceptHandler} {hs2 : List (Option Nat × List (Str × Bool) × (Ev → Fl))} {l' : List (Value × Option Nat × TS)}, HdsT X P hds' hs2 l' → wHs X.K Wout D l' cls d σ' H' →
        wpAny (model X.prog X.w) X.A (handleBy (.ref a) X.env hds') (SP X pins D) X.xe { s' with heap := h3 } := by
      intro hds' hs2 l' hk
      induction hk with
      | nil =>
        intro w
        refine wpAny_handleBy_nil ?_
        obtain ⟨k1, k2, k3, oe, vs, T, oT, ts', he, hz, hd, h1, hr⟩ := id fl3
        unfold PySem.passOn
        refine wpAny_bind (wpAny_field he hd h1 ?_)
        rw [if_neg (show ¬ ((Value.ref T == Value.none) = true) from by simp)]
        have fin : wpAny (model X.prog X.w) X.A (setFlight (.ref a) X.env.frame) (fun _ s4 => wpAny (model X.prog X.w) X.A (throw (.ref a) : Sem Flow) (SP X pins D) X.xe s4) X.xe { s' with heap := h3 } := by
          rw [hf]
          refine HandSPX.setFlight_upZ fl3 fun h4 hh4 up4 => wpAny_throw (tk _ _ ?_)
          exact ⟨a, B, sI, pins, σ', H', cls, d, rfl, J, nb, (up.trans up3).trans up4, .inr (.inr (by rw [hs]; exact hh4)), na, os, ag, w⟩
        first
          | exact wpAny_bind (wpAny_pure (wpAny_bind fin))
          | exact wpAny_bind fin
      | @named x n c i suite b₀ np pos' tbl su hds2 hs3 l2 hP hi hln hc ht hsu r ih =>
        intro w
        obtain ⟨b, hb1, hyes, hno⟩ := w
        have hloc : Loc X.env.scope n := .inl hln
        refine wpAny_handleBy_cons (codeAny_handlers_test ?_) (by intro q; cases q)
        have LM := PySem.W.exm_one (M := model X.prog X.w) (J3.kIn) LT hb1
        have test : ∀ {Q : Value → Shared → Prop} {E : Value → Shared → Prop}, Q c { s' with heap := h3 } → wpAny (model X.prog X.w) (X.A.mark (some (.ref a))) (eval (.Name x np) X.env) Q E { s' with heap := h3 } := fun {Q E} q => by
          obtain ⟨hg, hdbg, hm | ⟨hm, hv, hnn⟩⟩ := hc
          · exact ld_glob (X := X.suite a (X.pn ++ pins)) S3 hg hm q hdbg
          · exact ld_blt (X := X.suite a (X.pn ++ pins)) S3 hg hm hv q hnn hdbg
        refine test (LM.here ?_)
        cases b with
        | true =>
          refine codeAny_handlers_suite_as ?_
          refine HandSPX.lands_againZ fl3 fun h4 fl4 up4 => ?_
          have J4 : Inv X pins σ' H' { s' with heap := h4 } := J.landed nb fl4.1 ((up.trans up3).trans up4) os ag
          obtain ⟨oe4, vs4, he4, hz4, hd4⟩ := fl4.there
          have J5 := Inv.track J4 he4 hz4 hd4 na n0 npin nL
          have S4 := Inv.toSuite J5 a
          refine store_ok (X := X.suite a (X.pn ++ pins)) (v := .ref a) S4 hN hi hloc rfl (fun s5 S5 => ?_) (.inr hln)
          refine wpAny_mono ((hsu a (X.pn ++ pins)).run [] s5 _ _ _ S5 (hyes rfl a na)) (fun f s6 hsp => ?_) (fun _ _ z => False.elim z)
          have end_ : ∀ {σ6 : L2.St} {H6 : Hp} {Q : Shared → Prop}, Inv (X.suite a (X.pn ++ pins)) [] σ6 H6 s6 → (∀ s7, Inv X pins (σ6.set i none) H6 s7 → Q s7) →
              wpAny (model X.prog X.w) X.A (do bindName X.env n .none; unbindBehindTheSuite X.env n pos') (fun _ s7 => Q s7) X.xe s6 := fun {σ6 H6 Q} S6 hq => gone_ok (Inv.offSuite S6 ok) hN hi hln hq
          cases f with
          | next =>
            obtain ⟨σ6, H6, S6, q6⟩ := hsp
            exact end_ S6 fun s7 J7 => ⟨_, _, J7, q6⟩
          | brk =>
            obtain ⟨σ6, H6, S6, q6⟩ := hsp
            exact end_ S6 fun s7 J7 => ⟨_, _, J7, q6⟩
          | cont =>
            obtain ⟨σ6, H6, S6, q6⟩ := hsp
            exact end_ S6 fun s7 J7 => ⟨_, _, J7, q6⟩
          | ret u =>
            obtain ⟨v6, σ6, H6, S6, r6, q6⟩ := hsp
            exact end_ S6 fun s7 J7 => ⟨_, _, _, J7, r6, q6⟩
        | false =>
          show wpAny _ X.A (handleBy (.ref a) X.env hds2) _ _ _
          exact ih (hno rfl)
      | @bare x c suite b₀ np pos' tbl su hds2 hs3 l2 hc ht hsu r ih =>
        intro w
        obtain ⟨b, hb1, hyes, hno⟩ := w
        refine wpAny_handleBy_cons (codeAny_handlers_test ?_) (by intro q; cases q)
        have LM := PySem.W.exm_one (M := model X.prog X.w) (J3.kIn) LT hb1
        have test : ∀ {Q : Value → Shared → Prop} {E : Value → Shared → Prop}, Q c { s' with heap := h3 } → wpAny (model X.prog X.w) (X.A.mark (some (.ref a))) (eval (.Name x np) X.env) Q E { s' with heap := h3 } := fun {Q E} q => by
          obtain ⟨hg, hdbg, hm | ⟨hm, hv, hnn⟩⟩ := hc
          · exact ld_glob (X := X.suite a (X.pn ++ pins)) S3 hg hm q hdbg
          · exact ld_blt (X := X.suite a (X.pn ++ pins)) S3 hg hm hv q hnn hdbg
        refine test (LM.here ?_)
        cases b with
        | true =>
          refine codeAny_handlers_suite ?_
          refine HandSPX.lands_againZ fl3 fun h4 fl4 up4 => ?_
          have J4 : Inv X pins σ' H' { s' with heap := h4 } := J.landed nb fl4.1 ((up.trans up3).trans up4) os ag
          have S4 := Inv.toSuite J4 a
          refine wpAny_mono ((hsu a (X.pn ++ pins)).run [] _ _ H' _ S4 (hyes rfl)) (fun f s6 hsp => ?_) (fun _ _ z => False.elim z)
          cases f with
          | next =>
            obtain ⟨σ6, H6, S6, q6⟩ := hsp
            exact ⟨_, _, Inv.offSuite S6 ok, q6⟩
          | brk =>
            obtain ⟨σ6, H6, S6, q6⟩ := hsp
            exact ⟨_, _, Inv.offSuite S6 ok, q6⟩
          | cont =>
            obtain ⟨σ6, H6, S6, q6⟩ := hsp
            exact ⟨_, _, Inv.offSuite S6 ok, q6⟩
          | ret u =>
            obtain ⟨v6, σ6, H6, S6, r6, q6⟩ := hsp
            exact ⟨_, _, _, Inv.offSuite S6 ok, r6, q6⟩
        | false =>
          show wpAny _ X.A (handleBy (.ref a) X.env hds2) _ _ _
          exact ih (hno rfl)
    exact go hh w
  · cases f with
    | next =>
      obtain ⟨σ', H', J', q⟩ := hsp
      exact wpAny_execs_nil ⟨σ', H', J'.ofTry ok, q⟩
    | brk =>
      obtain ⟨σ', H', J', q⟩ := hsp
      exact ⟨σ', H', J'.ofTry ok, q⟩
    | cont =>
      obtain ⟨σ', H', J', q⟩ := hsp
      exact ⟨σ', H', J'.ofTry ok, q⟩
    | ret u =>
      obtain ⟨v, σ', H', J', r, q⟩ := hsp
      exact ⟨v, σ', H', J'.ofTry ok, r, q⟩

/-- the named clause's suite -/
theorem err_ok [Cv] {i : Nat} {su : Ev → Fl} {c' : Str} {p : Option MD} {dd : Option Addr} {a : Addr} {D : Ends} (hP : ¬ P i) (q : Pst (KL K) L P σ ev O S H rs ev1 vs τ O1 S1 H1) (xo : XOk mg c' p H1 (cv c') dd rs vs) (k : AftS (KL K) mg P σ ev O S L H W D (errK i su c' p ev1)) (ha : H1 a = none) :
    tS (KL K) mg P W0 su { nx := fun σ' H' => D.nx (σ'.set i none) H', rt := D.rt, bk := fun σ' H' => D.bk (σ'.set i none) H', ct := fun σ' H' => D.ct (σ'.set i none) H' } (τ.set i (some (.ref a))) (upd H1 a (ErO (cv c') dd a)) := by
  unfold errK at k
  split at k
  · rename_i il
    -- the error in its slot
    obtain ⟨ds, hk, rp⟩ : ∃ ds : List T6.D, AftS (KL K) mg P σ ev O S L H W D (delS i (su (ev1.set i (some (.dp, .err (cv c') ds))))) ∧ Rep (KL K) (upd H1 a (ErO (cv c') dd a)) (.err (cv c') ds) (.ref a) [] ∧ flats ds = true := by
      cases p with
      | none =>
        obtain ⟨_, h2⟩ := xo
        obtain ⟨rfl, _, _⟩ := h2
        exact ⟨[], k, ⟨rfl, rfl, a, none, [], rfl, upd_same, ⟨rfl, rfl⟩, .inl ⟨rfl, rfl⟩⟩, rfl⟩
      | some r =>
        obtain ⟨_, q1, v, e1, e2, rfl, rfl⟩ := xo
        dsimp only at k
        split at k
        · rename_i fl
          obtain ⟨fp, rr⟩ := q.rep1
          have rr := rep_flat0 fl rr
          have rr2 := rr.kp (upd_kp (o := ErO (cv c') dd a) ha (rep_live rr))
          have nq : q1 ≠ a := fun z => by rw [z, ha] at e2; cases e2
          exact ⟨[r.2], k, ⟨rfl, by simp [flats, fl], a, dd, [v], rfl, upd_same, ⟨v, [], [], [], rfl, rfl, rr2, rfl, rfl⟩, .inr ⟨q1, v, e1, rfl, by rw [upd_ne nq]; exact e2⟩⟩, by simp [flats, fl]⟩
        · exact k.elim
    obtain ⟨O2, q2⟩ := q.drop
    have q3 := Pst.laid (o := ErO (cv c') dd a) q2 ha
    obtain ⟨O4, q4⟩ := q3.flat (d := .err (cv c') ds) (v := .ref a) (f := []) (by simpa [flat] using rp.2) rp.1
    obtain ⟨O5, q5⟩ := q4.store il hP
    refine ⟨_, O5, S1, L, q5.fit, q5.good, ?_⟩
    have k2 := aftS_next q5 hk
    cases hsu2 : su (ev1.set i (some (.dp, .err (cv c') ds))) with
    | nx ev' =>
      rw [hsu2] at k2
      intro τ2 O6 S6 H6 p6
      obtain ⟨O7, p7⟩ := p6.del hP
      exact k2 _ O7 S6 H6 p7
    | rt r ev' =>
      rw [hsu2] at k2
      intro v τ2 O6 S6 H6 p6
      obtain ⟨O7, p7⟩ := p6.del hP
      exact k2 _ _ O7 S6 H6 p7
    | bk ev' =>
      rw [hsu2] at k2
      intro τ2 O6 S6 H6 p6
      obtain ⟨O7, p7⟩ := p6.del hP
      exact k2 _ O7 S6 H6 p7
    | ct ev' =>
      rw [hsu2] at k2
      intro τ2 O6 S6 H6 p6
      obtain ⟨O7, p7⟩ := p6.del hP
      exact k2 _ O7 S6 H6 p7
    | ex c2 p2 ev' => rw [hsu2] at k2; exact k2.elim
    | no => rw [hsu2] at k2; exact k2.elim
  · exact k.elim
/-- the clauses' Aft -/
theorem hn_ok [Cv] {hds : List ExceptHandler} {hs : List (Option Nat × List (Str × Bool) × (Ev → Fl))} {l : List (Value × Option Nat × TS)} {D : Ends} {c' : Str} {p : Option MD} {dd : Option Addr} (hh : HdsT X P hds hs l) :
    ∀ {cls : Value}, Pst (KL X.K) L P σ ev O S H rs ev1 vs τ O1 S1 H1 → XOk X.mg c' p H1 cls dd rs vs → AftS (KL X.K) X.mg P σ ev O S L H W D (hnK hs c' p ev1) → wHs X.K W D l cls dd τ H1 := by
  induction hh with
  | nil => intro cls q xo k; exact k cls dd rs vs τ O1 S1 H1 q xo
  | @named x n c i suite b₀ np pos' tbl su hds2 hs3 l2 hP hi hln hc ht hsu r ih =>
    intro cls q xo k
    unfold hnK at k
    cases hl : tbl.lookup c' with
    | none => rw [hl] at k; exact k.elim
    | some t =>
      rw [hl] at k
      obtain ⟨hmg, hex1⟩ := ht c' t hl
      have ec : cls = cv c' := by
        have := xo.1
        rw [hmg] at this
        exact (Option.some.inj this).symm
      subst ec
      refine ⟨t, hex1, fun z a ha => ?_, fun z => ?_⟩
      · subst z
        exact err_ok hP q xo k ha
      · subst z
        exact ih q xo k
  | @bare x c suite b₀ np pos' tbl su hds2 hs3 l2 hc ht hsu r ih =>
    intro cls q xo k
    unfold hnK at k
    cases hl : tbl.lookup c' with
    | none => rw [hl] at k; exact k.elim
    | some t =>
      rw [hl] at k
      obtain ⟨hmg, hex1⟩ := ht c' t hl
      have ec : cls = cv c' := by
        have := xo.1
        rw [hmg] at this
        exact (Option.some.inj this).symm
      subst ec
      refine ⟨t, hex1, fun z => ?_, fun z => ?_⟩
      · subst z
        dsimp only at k
        obtain ⟨O2, q2⟩ := q.drop
        refine ⟨ev1, O2, S1, L, q2.fit, q2.good, ?_⟩
        have k2 := aftS_next q2 k
        cases hsu2 : su ev1 with
        | nx ev' => rw [hsu2] at k2; exact k2
        | rt r ev' => rw [hsu2] at k2; exact k2
        | bk ev' => rw [hsu2] at k2; exact k2
        | ct ev' => rw [hsu2] at k2; exact k2
        | ex c2 p2 ev' => rw [hsu2] at k2; exact k2.elim
        | no => rw [hsu2] at k2; exact k2.elim
      · subst z
        exact ih q xo k
theorem s_tri [Cv] {h₀ : ExceptHandler} {hds : List ExceptHandler} {hs' : List (Option Nat × List (Str × Bool) × (Ev → Fl))} {l : List (Value × Option Nat × TS)} {body : List Stmt} {b : Ev → Fl} {pos : Pos} (hs : X.stack = X.env :: X.outer) (hf : X.env.frame = some X.env.locals) (hex : X.ex = []) (hN : X.N.Nodup) (tk : Takes X W)
    (hb : ∀ (W : WX) (pn : List (Addr × Obj)) (xe : Value → Shared → Prop), Takes (X.tr pn xe) W → PassesOwn (model X.prog X.w) X.A X.env xe → PSs (X.tr pn xe) body (tS (KL X.K) X.mg P W b))
    (hh : HdsT X P (h₀ :: hds) hs' l) :
    PS X (.Try body (h₀ :: hds) [] [] pos) (tS (KL X.K) X.mg P W (triS hs' b)) :=
  ps_weak (ps_tri (tb := fun W' => tS (KL X.K) X.mg P W' b) hs hf hex hN tk hb hh) fun D σ H => by
    rintro ⟨ev, O, S, L, ft, gd, k⟩
    refine ⟨ev, O, S, L, ft, gd, ?_⟩
    unfold triS at k
    cases hbe : b ev with
    | nx ev' => rw [hbe] at k; exact k
    | rt r ev' => rw [hbe] at k; exact k
    | bk ev' => rw [hbe] at k; exact k
    | ct ev' => rw [hbe] at k; exact k
    | no => rw [hbe] at k; exact k
    | ex c' p ev1 =>
      rw [hbe] at k
      dsimp only at k
      intro cls dd rs vs τ O1 S1 H1 q xo
      exact hn_ok hh q xo k
end
@[simp] theorem x_idxM {f : Ev → Rs MD} {h : Ev → Option Pv} {ev : Ev} : idxM f h ev = (f ev).bind (idxK h) := rfl
@[simp] theorem x_idxK {h : Ev → Option Pv} {r : MD} {ev1 : Ev} : idxK h r ev1 = (match h ev1 with
  | some pv => match gIdx r.2 pv.d with
    | some z => .ok (.dp, z) ev1
    | none => .no
  | none => .no) := rfl
@[simp] theorem x_triS [Cv] {hs : List (Option Nat × List (Str × Bool) × (Ev → Fl))} {b : Ev → Fl} {ev : Ev} : triS hs b ev = (match b ev with
  | .ex c p ev1 => hnK hs c p ev1
  | x => x) := rfl
@[simp] theorem x_hnK0 [Cv] {c : Str} {p : Option MD} {ev1 : Ev} : hnK [] c p ev1 = .ex c p ev1 := rfl
@[simp] theorem x_hnK1 [Cv] {oi : Option Nat} {tbl : List (Str × Bool)} {su : Ev → Fl} {r : List (Option Nat × List (Str × Bool) × (Ev → Fl))} {c : Str} {p : Option MD} {ev1 : Ev} : hnK ((oi, tbl, su) :: r) c p ev1 = (match tbl.lookup c with
    | some true => (match oi with
      | some i => errK i su c p ev1
      | none => quS (su ev1))
    | some false => hnK r c p ev1
    | none => .no) := rfl
@[simp] theorem x_quS1 {ev : Ev} : quS (.nx ev) = .nx ev := rfl
@[simp] theorem x_quS2 {r : MD} {ev : Ev} : quS (.rt r ev) = .rt r ev := rfl
end T6

namespace T6
open PySem PySem.Spec PyProof.Rows L2
variable [Tbl]
/-! ### while -/
def lpK (g : Ev → Fl) (x : Fl) : Fl := match x with
  | .nx e => g e
  | .ct e => g e
  | .bk e => .nx e
  | x => x
def whK (g : Ev → Fl) (b : Ev → Fl) (t : Bool) (ev : Ev) : Fl := match t with
  | true => lpK g (b ev)
  | false => .nx ev
def whileG (c : Ev → Rs Bool) (b : Ev → Fl) : Nat → Ev → Fl
  | 0, _ => .no
  | n + 1, ev => bndS (c ev) (whK (whileG c b n) b)
open Classical in
noncomputable def whileS (c : Ev → Rs Bool) (b : Ev → Fl) : Ev → Fl := fun ev => if h : ∃ n, whileG c b n ev ≠ .no then whileG c b h.choose ev else .no
section
variable {K : PySem.W.Frag} {C : Cs} {mg : Str → Option Value} {X : Cx} {W : WX} {e : Expr} {H H' H1 H2 : Hp} {O O' O1 O2 S S' S1 S2 L : Ps} {P P' : Nat → Prop} {σ τ : L2.St} {ev ev1 ev2 : Ev} {pos : Pos}
theorem s_while {bd : List Stmt} {c : Ev → Rs Bool} {b : Ev → Fl} (hp : PassesOwn (model X.prog X.w) X.A X.env X.xe) (hc : PT X e (tBM C mg W c)) (hb : PSs X bd (tS C mg P W b)) : PS X (.While e bd [] pos) (tS C mg P W (whileS c b)) := ps_weak (ps_while hp hc hb) fun D σ H => by
  rintro ⟨ev, O, S, L, ft, gd, k⟩
  unfold whileS at k
  split at k
  · rename_i hn
    refine ⟨fun m σ' H' => ∃ ev1 O1 S1, Fit ev1 σ' ∧ Good C H' O1 S1 L (ents ev1 σ') ∧ AftS C mg P σ' ev1 O1 S1 L H' W D (whileG c b m ev1), ⟨_, ev, O, S, ft, gd, k⟩, ?_⟩
    rintro m σ1 H1 ⟨ev1, O1, S1, ft1, gd1, k1⟩
    cases m with
    | zero => exact k1.elim
    | succ m =>
      refine ⟨ev1, O1, S1, L, ft1, gd1, aftS_bind (show AftS C mg P σ1 ev1 O1 S1 L H1 W D (bndS (c ev1) (whK (whileG c b m) b)) from k1) fun bb ev2 k2 H2 O2 S2 p2 => ?_⟩
      have k3 := aftS_next p2.all k2
      cases bb with
      | false =>
        dsimp only
        rw [if_neg Bool.false_ne_true]
        exact k3 _ O2 S2 H2 (.refl p2.fit p2.good)
      | true =>
        dsimp only
        rw [if_pos rfl]
        refine ⟨fun σ' H' => ∃ ev1 O1 S1, Fit ev1 σ' ∧ Good C H' O1 S1 L (ents ev1 σ') ∧ AftS C mg P σ' ev1 O1 S1 L H' W D (whileG c b m ev1), fun σ' H' h => ⟨m, by omega, h⟩, ev2, O2, S2, L, p2.fit, p2.good, ?_⟩
        have k3 : AftS C mg P σ1 ev2 O2 S2 L H2 W D (lpK (whileG c b m) (b ev2)) := k3
        cases hb2 : b ev2 with
        | nx e => rw [hb2] at k3; intro τ O3 S3 H3 p3; exact ⟨e, O3, S3, p3.fit, p3.good, aftS_next p3 k3⟩
        | ct e => rw [hb2] at k3; intro τ O3 S3 H3 p3; exact ⟨e, O3, S3, p3.fit, p3.good, aftS_next p3 k3⟩
        | bk e => rw [hb2] at k3; exact k3
        | rt r e => rw [hb2] at k3; exact k3
        | ex c p e => rw [hb2] at k3; exact k3
        | no => rw [hb2] at k3; exact k3.elim
  · exact k.elim
end
/-! ### what a while loop does -/
theorem whileG_up {c : Ev → Rs Bool} {b : Ev → Fl} : ∀ (n : Nat) (ev : Ev), whileG c b n ev ≠ .no → whileG c b (n + 1) ev = whileG c b n ev
  | 0, ev, h => absurd rfl h
  | n + 1, ev, h => by
    show bndS (c ev) (whK (whileG c b (n + 1)) b) = bndS (c ev) (whK (whileG c b n) b)
    have h : bndS (c ev) (whK (whileG c b n) b) ≠ .no := h
    cases hc : c ev with
    | ok t e =>
      rw [hc] at h
      cases t with
      | false => rfl
      | true =>
        show lpK (whileG c b (n + 1)) (b e) = lpK (whileG c b n) (b e)
        have h : lpK (whileG c b n) (b e) ≠ .no := h
        cases hb : b e with
        | nx e2 => rw [hb] at h; exact whileG_up n e2 h
        | ct e2 => rw [hb] at h; exact whileG_up n e2 h
        | _ => rfl
    | ex _ _ _ => rfl
    | no => rfl
theorem whileG_le {c : Ev → Rs Bool} {b : Ev → Fl} {n : Nat} {ev : Ev} (h : whileG c b n ev ≠ .no) : ∀ k : Nat, whileG c b (n + k) ev = whileG c b n ev
  | 0 => rfl
  | k + 1 => by
    have ih := whileG_le h k
    rw [← Nat.add_assoc, whileG_up (n + k) ev (by rw [ih]; exact h), ih]
theorem whileS_of {c : Ev → Rs Bool} {b : Ev → Fl} {n : Nat} {ev : Ev} (h : whileG c b n ev ≠ .no) : whileS c b ev = whileG c b n ev := by
  unfold whileS
  have hn : ∃ n, whileG c b n ev ≠ .no := ⟨n, h⟩
  rw [dif_pos hn]
  have h2 := hn.choose_spec
  generalize hn.choose = m at *
  rcases Nat.le_total n m with l | l
  · obtain ⟨k, rfl⟩ := Nat.exists_eq_add_of_le l
    exact whileG_le h k
  · obtain ⟨k, rfl⟩ := Nat.exists_eq_add_of_le l
    exact (whileG_le h2 k).symm
/-- an invariant with a measure -/
theorem wp_while {c : Ev → Rs Bool} {b : Ev → Fl} {W : Ws} {ev : Ev} (I : Nat → Ev → Prop) {m : Nat} (h0 : I m ev)
    (st : ∀ m e, I m e → (∃ e1, c e = .ok false e1 ∧ W.nx e1) ∨ ∃ e1, c e = .ok true e1 ∧ (b e1).wp ⟨fun e2 => ∃ m', m' < m ∧ I m' e2, W.rt, W.nx, fun e2 => ∃ m', m' < m ∧ I m' e2, W.ex⟩) : (whileS c b ev).wp W := by
  have key : ∀ (m : Nat) (e : Ev), I m e → ∃ n, (whileG c b n e).wp W := by
    intro m
    induction m using Nat.strongRecOn with
    | ind m ih =>
      intro e hI
      rcases st m e hI with ⟨e1, hc, hw⟩ | ⟨e1, hc, hw⟩
      · exact ⟨1, by show (bndS (c e) (whK (whileG c b 0) b)).wp W; rw [hc]; exact hw⟩
      · cases hb : b e1 with
        | nx e2 =>
          rw [hb] at hw
          obtain ⟨m', hm, hI2⟩ := hw
          obtain ⟨n, hn⟩ := ih m' hm e2 hI2
          exact ⟨n + 1, by show (bndS (c e) (whK (whileG c b n) b)).wp W; rw [hc]; show (lpK (whileG c b n) (b e1)).wp W; rw [hb]; exact hn⟩
        | ct e2 =>
          rw [hb] at hw
          obtain ⟨m', hm, hI2⟩ := hw
          obtain ⟨n, hn⟩ := ih m' hm e2 hI2
          exact ⟨n + 1, by show (bndS (c e) (whK (whileG c b n) b)).wp W; rw [hc]; show (lpK (whileG c b n) (b e1)).wp W; rw [hb]; exact hn⟩
        | bk e2 => rw [hb] at hw; exact ⟨1, by show (bndS (c e) (whK (whileG c b 0) b)).wp W; rw [hc]; show (lpK (whileG c b 0) (b e1)).wp W; rw [hb]; exact hw⟩
        | rt r e2 => rw [hb] at hw; exact ⟨1, by show (bndS (c e) (whK (whileG c b 0) b)).wp W; rw [hc]; show (lpK (whileG c b 0) (b e1)).wp W; rw [hb]; exact hw⟩
        | ex c' p e2 => rw [hb] at hw; exact ⟨1, by show (bndS (c e) (whK (whileG c b 0) b)).wp W; rw [hc]; show (lpK (whileG c b 0) (b e1)).wp W; rw [hb]; exact hw⟩
        | no => rw [hb] at hw; exact hw.elim
  obtain ⟨n, hn⟩ := key m ev h0
  have hne : whileG c b n ev ≠ .no := fun z => by rw [z] at hn; exact hn
  rw [whileS_of hne]
  exact hn
end T6

set_option maxHeartbeats 4000000
namespace T6
open PySem PySem.Spec PyProof.Rows L2
variable [Tbl]
/-! ### sorted(set(..)) of however many numbers -/
section
variable {P : Program} {w : World} {A : Around} {E : Value → Shared → Prop} {s : Shared} {a : Addr}
theorem sorted_setA {S : Int → Bool} {n : Nat} {Q : Value → Shared → Prop} (R : SetR w s.heap a S n) (hh : A.handled = none) (h64 : n < 4000)
    (hQ : ∀ s' p (out : Array Value) (c : Nat) (ns : List Int), (∀ b o, s.heap.get? b = some o → s'.heap.get? b = some o) → s'.gens = s.gens → s'.os = s.os → s.heap.objs.size ≤ p →
      s'.heap.get? p = some (seqObj "list" out c) → IntsAre out.toList ns → ns.Pairwise (· < ·) → (∀ k, k ∈ ns ↔ S k = true) → ns.length = n → Q (.ref p) s') :
    wpAny (model P w) A (call (.builtin "sorted") [.ref a]) Q E s := by
  obtain ⟨o, es, ep, t, ho, hex, hd, g, nd, hm, hb, hf, hn, hr, hl⟩ := R
  refine Calls.call_function_entry kind_sorted plain_sorted entry_sorted (args_sorted1 _) ?_
  unfold Builtin.«sorted»
  refine wpAny_bind (m := checkCount "sorted" 1 1 _) (wpAny_pure ?_)
  refine wpAny_bind (collect_set (A := A.in1) hh ⟨o, ho, hex.1, hd⟩ hf hb hr hl fun s1 vs k1 hz g1 o1 pm => ?_)
  have hvl : vs.length = n := by rw [pm.length_eq, List.length_map, Array.length_toList]; exact hn
  have hI : IntsAre vs (vs.map Builtin.Re.reRawOf) := L2.ints_of vs fun v hv => by
    obtain ⟨e, he, q⟩ := List.mem_map.mp (pm.mem_iff.mp hv)
    obtain ⟨k, tk, h1, _⟩ := g e he
    exact ⟨k, tk, by rw [← q]; exact h1⟩
  have pk : (vs.map Builtin.Re.reRawOf).Perm (es.toList.map keyOf) := by
    have q := pm.map Builtin.Re.reRawOf
    rw [List.map_map] at q
    exact q
  refine wpAny_bind (wpAny_newList ?_ (by rw [hvl, sizeLine_eq]; omega))
  have hoL : (s1.heap.push (seqObj "list" vs.toArray 0)).get? s1.heap.objs.size = some (seqObj "list" vs.toArray 0) := Heap.get?_push_size _ rfl
  refine wpAny_bind (wpAny_holding (wpAny_call_entry slot_list_sort ⟨_, hoL, rfl⟩ entry_list_sort (list_sort_treeAny hoL hI (by rw [hvl, sizeLine_eq]; omega) fun out ns' a1 a2 a3 => ⟨_, rfl, ?_⟩) (args_list_sort _)))
  obtain ⟨c, hc⟩ := sortedHeap_at (vs := vs) (out := out) hoL
  have pn : ns'.Perm (es.toList.map keyOf) := a2.trans pk
  refine wpAny_pure ⟨_, rfl, hQ _ s1.heap.objs.size out c ns' (fun b u e => ?_) g1 o1 hz hc a1 (lt_of_le_nodup ns' a3 (pn.nodup_iff.mpr nd)) (fun k => by rw [pn.mem_iff, ← hm k]) ?_⟩
  · have q := k1 b u e
    have hlt := Heap.lt_size q
    show (sortedHeap (s1.heap.push (seqObj "list" vs.toArray 0)) s1.heap.objs.size vs out).get? b = some u
    rw [sortedHeap_old (Nat.ne_of_lt hlt) (by rw [size_push']; exact Nat.lt_succ_of_lt hlt)]
    exact Heap.get?_push_of_some _ q
  · rw [pn.length_eq, List.length_map, Array.length_toList]; exact hn
end
def rSortedSetA (w : World) : List V → Hp → VK → Prop := fun vs H Q => ∃ (a : Addr) (S : Int → Bool) (n : Nat), vs = [V.ref a] ∧ H a = some (SetO w a S n) ∧ n < 4000 ∧
  ∀ (ns : List Int) (p : Addr), ns.Pairwise (· < ·) → (∀ k : Int, k ∈ ns ↔ S k = true) → ns.length = n → H p = none → Q (.ref p) (upd H p (.lst (ns.map V.int)))
theorem cr_sortedSetA {X : Cx} (hc : X.calm = true) : CallR X (.builtin "sorted") (rSortedSetA X.w) := by
  intro pins s σ H vs us Q I r h
  obtain ⟨a, S, n, rfl, ha, h64, q⟩ := h
  have R := setO_get I ha
  rw [Vals.ref1 r]
  refine sorted_setA R (I.ok.hd hc) h64 fun s' p out c ns k g o hp hg hi hs hm hl => ?_
  have hlen : (ns.map V.int).length ≤ sizeLine := by rw [List.length_map, hl, sizeLine_eq]; omega
  have hn : H p = none := I.hok.fresh hp
  have J : Inv X pins σ (upd H p (.lst (ns.map V.int))) { s with heap := s'.heap, gens := s'.gens, drawn := s'.drawn, toks := s'.toks } :=
    I.call (ch := []) (Un.laid k hp hn) (I.hok.laid k hp ⟨hlen, out.toList, c, vals_of_ints hi, hg⟩) (by rw [g]; exact I.bare) (fun _ z => nomatch z)
  have e : s' = { s with heap := s'.heap, gens := s'.gens, drawn := s'.drawn, toks := s'.toks } := by
    cases s'
    cases s
    cases o
    rfl
  rw [e]
  exact ⟨.ref p, _, J, rfl, q ns p hs hm hl hn⟩
def stOk2 (ns : List Int) : Bool := decide (ns.length < 4000)
def kSrtT : List Ag → Ev → Rs MD := fun as ev => match as with
  | [.vl _ (.lst ds)] => match intsOf ds with
    | some ns => if stOk2 ns = true then .ok (.dp, .lst ((srtSet ns).map D.int)) ev else .no
    | none => .no
  | _ => .no
theorem k_srtT {K : PySem.W.Frag} {w : World} : KOk (KL K) (fun xs H Q => rSetL K w xs H fun v H1 => rSortedSetA w [v] H1 Q) kSrtT := fun mg W σ ev O S L H as vs tvs trs ev2 O2 S2 H2 Q p ar af => by
  unfold kSrtT at af
  split at af
  · rename_i s ds
    obtain ⟨x, fp, rfl, rfl, rfl, r1, s1, t1⟩ := argR_vals1 ar
    obtain ⟨a, xs, f1, rfl, rr, sq⟩ := r1
    split at af
    · rename_i ns hns
      split at af
      · rename_i hk
        have hk' : ns.length < 4000 := by simpa [stOk2] using hk
        have sl := srtSet_len (ns := ns)
        have ex := reps_ints rr hns
        subst ex
        refine ⟨a, ns, rfl, sq_of sq, by unfold scanBound; omega, fun l n hn hl => ⟨l, _, n, rfl, upd_same, by omega, fun ns' q hp hm _ hq => ?_⟩⟩
        have e : ns' = srtSet ns := lt_one hp pw_srtSet fun k => by rw [hm k, mem_srtSet]; simp
        subst e
        have p2 := Pst.laid (o := SetO w l (fun j => decide (j ∈ ns)) n) p hl
        obtain ⟨r4, k4, p4⟩ := newL_ok (s := true) (ds := (srtSet ns).map D.int) p2 reps_of_ints (by simp) (show Aft (KL K) mg σ ev O S L H W (newL true _ ev2) _ by unfold newL; rw [if_pos flats_int]; exact af)
        obtain ⟨O5, S5, p5⟩ := p4 q hq
        exact k4 _ _ _ _ p5
      · exact af.elim
    · exact af.elim
  · exact af.elim
section
variable {K : PySem.W.Frag} {C : Cs} {mg : Str → Option Value} {X : Cx} {W : WX} {a b e : Expr} {pos p1 p2 q1 : Pos} {ts : TA} {B : ∀ {α : Type}, Arp α}
/-- sorted(set(e)) -/
theorem e_srtT (hc : X.calm = true) (hg : Gl X "sorted") (hm : X.mg "sorted" = none) (hg2 : Gl X "set") (hm2 : X.mg "set" = none) (ha : PA X [e] ts) (w : ArgsW (KL X.K) mg W ts B)
    (he : starEach [e] X.env = (false, eval e X.env) :: starEach [] X.env := by rfl)
    (he2 : starEach [.Call (.Name "set" p2) [e] [] q1] X.env = (false, eval (.Call (.Name "set" p2) [e] [] q1) X.env) :: starEach [] X.env := by rfl) (hpl : (backTo q1 (starEach [] X.env)).any (·.1) = false := by rfl) (hpl2 : (backTo pos (starEach [] X.env)).any (·.1) = false := by rfl) :
    PE X (.Call (.Name "sorted" p1) [.Call (.Name "set" p2) [e] [] q1] [] pos) (tE (KL X.K) mg W (opA kSrtT B)) :=
  pe_weak (pe_callB (cr_sortedSetA hc) hg hm boot_sorted (pa_cons (pe_callTy (cr_setL hc) hg2 hm2 boot_set ha (by decide) (by decide) he hpl) pa_nil he2) (by decide) (by decide) he2 hpl2) fun σ H Q z => by
    have z := tcb_weak (k_srtT (K := X.K) (w := X.w)) w σ H Q z
    exact z
end
@[simp] theorem x_srtT {s : Bool} {ns : List Int} {ev : Ev} : kSrtT [.vl s (.lst (ns.map D.int))] ev = if stOk2 ns = true then .ok (.dp, .lst ((srtSet ns).map D.int)) ev else .no := by
  simp only [kSrtT, ints_of]
end T6

namespace T6
open PySem PySem.Spec PyProof.Rows L2
variable [Tbl]
/-! ### len(set(numbers)) -/
def gLenS (d : D) : Option D := match d with
  | .lst ds => (intsOf ds).bind fun ns => if stOk2 ns = true then some (.int ((srtSet ns).length : Nat)) else none
  | _ => none
section
variable {K : PySem.W.Frag} {C : Cs} {mg : Str → Option Value} {X : Cx} {W : WX} {a : Expr} {f : Ev → Option Pv}
def tLenSetG (K : PySem.W.Frag) (ta : TE) : TE := fun σ H Q => ta σ H fun x H1 => ∃ (l : Addr) (ns : List Int), x = V.ref l ∧ SqL K H1 l (ns.map V.int) ∧ ns.length < 4000 ∧ Q (.int ((srtSet ns).length : Nat)) H1
theorem pe_lenSetG {ta : TE} {p p2 q pos : Pos} (hc : X.calm = true) (hg : Gl X "len") (hm : X.mg "len" = none) (hg2 : Gl X "set") (hm2 : X.mg "set" = none) (ha : PE X a ta)
    (na : starEach [a] X.env = (false, eval a X.env) :: starEach [] X.env := by rfl) : PE X (.Call (.Name "len" p) [.Call (.Name "set" p2) [a] [] q] [] pos) (tLenSetG X.K ta) := by
  refine ⟨fun pins s σ H Q I h => ?_⟩
  refine Call_ (ld_blt I hg hm PySem.boot_len ?_)
  refine PyProof.Rows.callWith_builtin1 (PyProof.Rows.args_cons ?_ rfl) rfl rfl
  refine Call_ (ld_blt I hg2 hm2 PyProof.Rows.boot_set ?_)
  refine PyProof.Rows.callWith_type1 (PyProof.Rows.args_cons (thn (ha.run pins s σ H _ I h) fun v s1 ⟨x, H1, I1, r1, q1⟩ => PyProof.Rows.args_nil ?_) na) na rfl
  obtain ⟨l, ns, rfl, hq, h1, q1⟩ := q1
  cases r1
  obtain ⟨its, r, pl, hz⟩ := I1.list hq
  refine call_setL (I1.ok.hd hc) pl.isList (by simpa using ints_of_vals r) (by unfold scanBound; omega) fun h2 tk c R kp => ?_
  have hS := R.setOf (P := X.prog)
  have cn : c = (srtSet ns).length := by
    obtain ⟨o, es, ep, t, _, _, _, _, nd, mm, _, _, e, _⟩ := R
    have u1 := nodup_len nd (ds := srtSet ns) fun k hk => mem_srtSet.mpr (by simpa using (mm k).mpr hk)
    have u2 := nodup_len (l := srtSet ns) (pw_srtSet.imp fun h => by omega) (ds := es.toList.map keyOf) fun k hk => (mm k).mp (by simpa using mem_srtSet.mp hk)
    simp only [List.length_map, Array.length_toList] at u1 u2
    omega
  have sl := srtSet_len (ns := ns)
  refine PyProof.Rows.args_nil ?_
  obtain ⟨o, es, ep, t, ho, hex, hd, _, _, _, hf, hn⟩ := hS
  have I2 : Inv X pins σ H1 { s1 with heap := h2, toks := tk } := I1.kept fun b o e => kp b o e
  exact call_len_set ho hex hd hf (by rw [hn] <;> omega) ⟨.int ((srtSet ns).length : Nat), H1, I2.tok _, ⟨_, by rw [hn, cn]⟩, q1⟩
theorem e_lenS {p p2 q pos : Pos} (hc : X.calm = true) (hg : Gl X "len") (hm : X.mg "len" = none) (hg2 : Gl X "set") (hm2 : X.mg "set" = none) (ha : PE X a (tP (KL X.K) f))
    (na : starEach [a] X.env = (false, eval a X.env) :: starEach [] X.env := by rfl) : PE X (.Call (.Name "len" p) [.Call (.Name "set" p2) [a] [] q] [] pos) (tP (KL X.K) (p1 gLenS f)) :=
  pe_weak (pe_lenSetG hc hg hm hg2 hm2 ha na) fun σ H Q => by
  rintro ⟨ev, O, S, L, ft, gd, p, hp, k⟩
  unfold p1 at hp
  cases hf : f ev with
  | none => rw [hf] at hp; cases hp
  | some pv =>
    rw [hf] at hp
    refine ⟨ev, O, S, L, ft, gd, pv, hf, fun x hx => ?_⟩
    obtain ⟨f1, r1⟩ := pv_rep hx
    cases hd : gLenS pv.d with
    | none => simp [hd] at hp
    | some z =>
      have hp : p = .fl z := by simpa [hd] using hp.symm
      subst hp
      unfold gLenS at hd
      split at hd
      · rename_i ds el
        rw [el] at r1
        obtain ⟨l, xs, g, rfl, rr, sq⟩ := r1
        cases hn : intsOf ds with
        | none => rw [hn] at hd; cases hd
        | some ns =>
          rw [hn] at hd
          have hd : (if stOk2 ns = true then some (D.int ((srtSet ns).length : Nat)) else none) = some z := hd
          split at hd
          · rename_i hk
            have hk' : ns.length < 4000 := by simpa [stOk2] using hk
            cases hd
            have ex := reps_ints rr hn
            subst ex
            exact ⟨l, ns, rfl, sq_of sq, hk', k _ ⟨rfl, rfl, rfl⟩⟩
          · cases hd
      · cases hd
end
@[simp] theorem x_gLenS {ns : List Int} : gLenS (.lst (ns.map D.int)) = if stOk2 ns = true then some (.int ((srtSet ns).length : Nat)) else none := by
  unfold gLenS
  dsimp only
  rw [ints_of]
  rfl
end T6

namespace T6
open PySem PySem.Spec PyProof.Rows L2
variable [Tbl]
/-! ### d[k], a look -/
open Classical in
noncomputable def dixF : List Key → List D → Key → Option D
  | k :: ks, d :: ds, x => if k = x then some d else dixF ks ds x
  | _, _, _ => none
noncomputable def gDix (d e : D) : Option D := match d with
  | .dct ks ds => if flats ds = true then (keyD e).bind (dixF ks ds) else none
  | _ => none
section
variable {K : PySem.W.Frag} {C : Cs} {X : Cx} {o i : Expr} {H : Hp} {pos : Pos} {f h : Ev → Option Pv}
theorem dix_val {k : Key} {d : D} : ∀ (kvs : List (Key × V)) (ds : List D) (g : List Addr), Reps C H ds (kvs.map (·.2)) g → flats ds = true → dixF (kvs.map (·.1)) ds k = some d → ∃ v, valV kvs k = some v ∧ flat d = true ∧ Rep C H d v []
  | [], ds, g, r, fl, h => by cases ds <;> simp [dixF] at h
  | p :: kvs, [], g, r, fl, h => by simp [dixF] at h
  | p :: kvs, d' :: ds, g, r, fl, h => by
    obtain ⟨v, vs, f1, f2, e1, _, r1, r2⟩ := r
    simp only [List.map_cons, List.cons.injEq] at e1
    obtain ⟨rfl, rfl⟩ := e1
    simp only [flats, Bool.and_eq_true] at fl
    simp only [List.map_cons, dixF] at h
    by_cases c : p.1 = k
    · rw [if_pos c] at h
      cases h
      exact ⟨p.2, valV_pos c, fl.1, rep_flat0 fl.1 r1⟩
    · rw [if_neg c] at h
      obtain ⟨v, h1, h2⟩ := dix_val kvs ds f2 r2 fl.2 h
      exact ⟨v, by rw [valV_neg c]; exact h1, h2⟩
theorem dix_core {x y : V} {d1 d2 d : D} {f1 f2 : List Addr} (r1 : Rep C H d1 x f1) (r2 : Rep C H d2 y f2) (hd : gDix d1 d2 = some d) : ∃ a v, x = .ref a ∧ DGet H a y (some v) ∧ flat d = true ∧ Rep C H d v [] := by
  unfold gDix at hd
  split at hd
  · rename_i ks ds
    split at hd
    · rename_i fl
      obtain ⟨k, hk, hx⟩ := Option.bind_eq_some_iff.mp hd
      obtain ⟨a, kvs, g, rfl, ek, rr, rd, _⟩ := r1
      subst ek
      obtain ⟨v, h1, h2, h3⟩ := dix_val kvs ds g rr fl hx
      exact ⟨a, v, rfl, .inl ⟨kvs, k, rd, keyD_rep hk r2, h1.symm⟩, h2, h3⟩
    · cases hd
  · cases hd
theorem e_dix (hu : X.A.units + 1 < cLine) (ho : PE X o (tP (KL X.K) f)) (hi : PE X i (tP (KL X.K) h)) (hs : NoSl i) : PE X (.Subscript o i pos) (tP (KL X.K) (p2 gDix f h)) :=
  pe_weak (pe_dget hu ho hi hs) fun σ H Q => by
  rintro ⟨ev, O, S, L, ft, gd, p, hp, q⟩
  unfold p2 at hp
  split at hp
  · rename_i a b ha hb
    obtain ⟨d, hd, rfl⟩ := Option.map_eq_some_iff.mp hp
    refine ⟨ev, O, S, L, ft, gd, a, ha, fun x hx => ?_⟩
    obtain ⟨f1, r1⟩ := pv_rep hx
    refine ⟨ev, O, S, L, ft, gd, b, hb, fun y hy => ?_⟩
    obtain ⟨f2, r2⟩ := pv_rep hy
    obtain ⟨c, v, h1, h2, h3, h4⟩ := dix_core r1 r2 hd
    exact ⟨c, v, h1, h2, q v ⟨h3, h4⟩⟩
  · cases hp
end
@[simp] theorem x_gDix {ks : List Key} {ds : List D} {e : D} : gDix (.dct ks ds) e = if flats ds = true then (keyD e).bind (dixF ks ds) else none := rfl
end T6

namespace T6
open PySem PySem.Spec PyProof.Rows L2 RT
variable [Tbl]
/-! ### reversed(a row of plain things), walked -/
def srcRv (nm : Bool) (f : Ev → Option Pv) : Ev → Rs (List (List MD)) := fun ev => match vwI f ev with
  | some (_, .lst ds) => if flats ds = true then (match itsD nm .sh (.lst ds.reverse) with
    | some is => .ok is ev
    | none => .no) else .no
  | some (_, .tup ds) => if flats ds = true then (match itsD nm .sh (.lst ds.reverse) with
    | some is => .ok is ev
    | none => .no) else .no
  | _ => .no
section
variable {K : PySem.W.Frag} {C : Cs} {mg : Str → Option Value} {X : Cx} {W : WX} {e : Expr} {H H' : Hp} {a : Addr} {xs : List V} {pos p : Pos}
theorem walk_rv : Walk (Itv K a xs.length) xs.reverse.length (fun H => SqL K H a xs) (YAt xs.reverse) :=
  ⟨fun i _ hi q => by rw [List.length_reverse] at hi; exact ⟨hi, xs, xs[xs.length - 1 - i]'(by omega), q, by rw [List.getElem?_eq_getElem (by omega)]⟩, fun _ q => by rw [List.length_reverse]; exact Nat.le_refl _,
    fun i _ _ _ hi q y => ⟨y.1, by rw [List.length_reverse] at hi; rw [List.getElem?_reverse hi]; exact y.2 xs q⟩⟩
theorem walk_rt : Walk (ItvT K a xs.length) xs.reverse.length (fun H => SqT K H a xs) (YAt xs.reverse) :=
  ⟨fun i _ hi q => by rw [List.length_reverse] at hi; exact ⟨hi, xs, xs[xs.length - 1 - i]'(by omega), q, by rw [List.getElem?_eq_getElem (by omega)]⟩, fun _ q => by rw [List.length_reverse]; exact Nat.le_refl _,
    fun i _ _ _ hi q y => ⟨y.1, by rw [List.length_reverse] at hi; rw [List.getElem?_reverse hi]; exact y.2 xs q⟩⟩
theorem reps_snoc : ∀ {ds : List D} {vs : List V} {d : D} {v : V}, Reps C H ds vs [] → Rep C H d v [] → Reps C H (ds ++ [d]) (vs ++ [v]) []
  | [], _, d, v, r, s => by obtain ⟨rfl, _⟩ := r; exact ⟨v, [], [], [], rfl, rfl, s, rfl, rfl⟩
  | d' :: ds, _, d, v, r, s => by
    obtain ⟨w, ws, f1, f2, rfl, e, r1, r2⟩ := r
    obtain ⟨rfl, rfl⟩ := List.append_eq_nil_iff.mp e.symm
    exact ⟨w, ws ++ [v], [], [], rfl, rfl, r1, reps_snoc r2 s⟩
theorem reps_rev0 : ∀ {ds : List D} {vs : List V}, Reps C H ds vs [] → Reps C H ds.reverse vs.reverse []
  | [], _, r => by obtain ⟨rfl, _⟩ := r; exact ⟨rfl, rfl⟩
  | d :: ds, _, r => by
    obtain ⟨w, ws, f1, f2, rfl, e, r1, r2⟩ := r
    obtain ⟨rfl, rfl⟩ := List.append_eq_nil_iff.mp e.symm
    rw [List.reverse_cons, List.reverse_cons]
    exact reps_snoc (reps_rev0 r2) r1
theorem i_rv {nm : Bool} {f : Ev → Option Pv} {tg : Expr} (hg : Gl X "reversed") (hm0 : X.mg "reversed" = none) (he : PE X e (tP (KL X.K) f)) (hs : starEach [e] X.env = (false, eval e X.env) :: starEach [] X.env := by rfl) :
    PI X tg (.Call (.Name "reversed" p) [e] [] pos) (tI (KL X.K) X.K mg W nm (srcRv nm f)) := pi_weak (pi_revA hg hm0 he hs) fun σ H R => by
  rintro ⟨ev, O, S, L, ft, gd, k⟩
  unfold srcRv at k
  split at k
  · rename_i m ds hv
    split at k
    · rename_i fl
      split at k
      · rename_i is hi
        obtain ⟨p, hp, _, hm, ok⟩ := vwI_ok (C := KL X.K) (H := H) (S := S) (L := L) (σ := σ) hv
        refine ⟨ev, O, S, L, ft, gd, p, hp, fun v hx => ?_⟩
        obtain ⟨fp, r, s, s2⟩ := ok v hx
        obtain ⟨a, xs, f1, rfl, h1, h2, rs, sub⟩ := rch_lst r s
        refine ⟨a, xs, rfl, .inl ⟨h1, k _ H O S (.refl ft gd) ?_⟩⟩
        exact src_walk walk_rv h2 (.inr rfl) (reps_rev0 (reps_flat0 fl rs)) (by simp) (by simp) hi
      · exact k.elim
    · exact k.elim
  · rename_i m ds hv
    split at k
    · rename_i fl
      split at k
      · rename_i is hi
        obtain ⟨p, hp, _, hm, ok⟩ := vwI_ok (C := KL X.K) (H := H) (S := S) (L := L) (σ := σ) hv
        refine ⟨ev, O, S, L, ft, gd, p, hp, fun v hx => ?_⟩
        obtain ⟨fp, r, s, s2⟩ := ok v hx
        obtain ⟨a, xs, rfl, h1, h2, rs⟩ := rch_tup (L := L) (S := S) r
        refine ⟨a, xs, rfl, .inr ⟨h1, k _ H O S (.refl ft gd) ?_⟩⟩
        exact src_walk walk_rt h2 (.inr rfl) (reps_rev0 (reps_flat0 fl rs)) (by simp) (by simp) hi
      · exact k.elim
    · exact k.elim
  · exact k.elim
end
@[simp] theorem x_srcRv {nm : Bool} {f : Ev → Option Pv} {ev : Ev} : srcRv nm f ev = (match vwI f ev with
  | some (_, .lst ds) => if flats ds = true then (match itsD nm .sh (.lst ds.reverse) with
    | some is => .ok is ev
    | none => .no) else .no
  | some (_, .tup ds) => if flats ds = true then (match itsD nm .sh (.lst ds.reverse) with
    | some is => .ok is ev
    | none => .no) else .no
  | _ => .no) := rfl
end T6

set_option maxHeartbeats 2000000
namespace T6
open PySem PySem.Spec PyProof.Rows L2
variable [Tbl]
/-! ### sorted(range(len(xs)), key=lambda at: 0 - xs[at]) -/
section
variable {prog : Program} {w : World} {A : Around} {E : Value → Shared → Prop} {s : Shared}
theorem lam_body {env : Env} {nm pa : Str} {c a : Addr} {its : List Value} {m : Str → Option Value} {i x : Int} {t t2 : Tok} {j : Nat} {p0 p1 p2 p3 p4 : Pos} {Q : Value → Shared → Prop}
    (hk : env.scope.kind = .function) (h1 : env.kindOf nm = some .free) (h2 : env.cells.lookup nm = some c) (h3 : s.heap.IsCell c (some (.ref a))) (h4 : env.kindOf pa = some .local) (h5 : s.heap.Ns env.locals m) (h6 : m pa = some (.int i t))
    (hl : s.heap.IsList a its.toArray) (h0 : 0 ≤ i) (hf : i < 2 ^ 63) (hx : its.toArray[i.toNat]? = some (.int x t2)) (d1 : (nm == ("__debug__" : Str)) = false) (d2 : (pa == ("__debug__" : Str)) = false) (d3 : (nm == ("__classdict__" : Str)) = false)
    (q : ∀ tk u, Q (.int (0 - x) u) { s with toks := tk }) : wpAny (model prog w) A (eval (.BinOp (.Constant (.int 0) j p0) .Sub (.Subscript (.Name nm p1) (.Name pa p2) p3) p4) env) Q E s := by
  refine wpAny_BinOp (wpAny_Constant_int (Subscript_ (wpAny_Name (wpAny_loadName_free hk h1 h2 h3 ?_ d3) d1)))
  refine wpAny_Name (wpAny_loadName_local hk h4 h5 h6 ?_) d2
  exact item_listR hl h0 hf hx (sub_int (q _ _))
theorem lam_call {f c' c a : Addr} {qual nm pa : Str} {params : Arguments} {scope : Scope} {cl : List (Str × Addr)} {pm ctv : Value} {its : List Value} {i x : Int} {t t2 : Tok} {j : Nat} {p0 p1 p2 p3 p4 : Pos}
    (hr : A.depth < recursionLimit) (hfo : s.heap.get? f = some (PySem.W.kla_obj "<lambda>" qual params (.BinOp (.Constant (.int 0) j p0) .Sub (.Subscript (.Name nm p1) (.Name pa p2) p3) p4) scope cl pm c' ctv)) (hcr : s.heap.CodeRec (.ref c') qual)
    (sk : scope.kind = .function) (sc : scope.isCoroutine = false) (sg : scope.isGenerator = false) (sn : ∀ y ∈ scope.names, y.2 ≠ .cell) (spa : scope.names.lookup pa = some .local) (snm : scope.names.lookup nm = some .free)
    (hb : bindArgs (PySem.W.kla_fn "<lambda>" qual params (.BinOp (.Constant (.int 0) j p0) .Sub (.Subscript (.Name nm p1) (.Name pa p2) p3) p4) scope cl pm (.ref c') ctv) ⟨[.int i t], []⟩ = pure [(pa, .int i t)])
    (h2 : cl.lookup nm = some c) (h3 : s.heap.IsCell c (some (.ref a))) (hl : s.heap.IsList a its.toArray) (h0 : 0 ≤ i) (hf : i < 2 ^ 63) (hx : its.toArray[i.toNat]? = some (.int x t2)) (nl : s.heap.NoLimit)
    (d1 : (nm == ("__debug__" : Str)) = false) (d2 : (pa == ("__debug__" : Str)) = false) (d3 : (nm == ("__classdict__" : Str)) = false) :
    wpAny (model prog w) A (call (.ref f) [.int i t]) (PySem.W.KeyPure (.int (0 - x)) s) (fun _ _ => False) s := by
  refine wpAny_call (PySem.W.kla_callFunE hr hfo rfl sc sg rfl hcr ?_)
  rw [hb]
  refine wpAny_pure (wpAny_newFunctionEnv sn (fun y hy => by rw [List.mem_singleton.mp hy]; exact spa) (fun h₁ hns hsb => ⟨nl.fresh _ hsb, ?_⟩) sk)
  have kp : ∀ b o, s.heap.get? b = some o → h₁.get? b = some o := fun b o e => hsb.extBut b o (fun z => Nat.lt_irrefl _ (by have := Heap.lt_size e; rw [z] at this; exact this)) (Heap.get?_push_of_some _ e)
  show codeAny _ _ (.expr _ (PySem.W.envX qual scope s.heap.objs.size f (.ref c') cl)) _ _
  refine PySem.W.kla_codeExpr (lam_body (env := PySem.W.envX qual scope s.heap.objs.size f (.ref c') cl) (m := fun y => ([(pa, Value.int i t)] : List (Str × Value)).reverse.lookup y) (c := c) (a := a) (t := t) sk snm h2 ?_ spa hns ?_ ?_ h0 hf hx d1 d2 d3 fun tk u => ⟨h₁, tk, rfl, kp, ?_⟩)
  · obtain ⟨o, e1, e2⟩ := h3
    exact ⟨o, kp _ _ e1, e2⟩
  · simp
  · obtain ⟨o, e1, e2⟩ := hl
    exact ⟨o, kp _ _ e1, e2⟩
  · exact .int _ _
open PySem.W in
theorem srt_range {r f : Addr} {n : Nat} {t u v : Tok} {key : Int → Int} {Q : Value → Shared → Prop} (hh : A.handled = none) (hr : IsRange s.heap r 0 n 1 t u v) (hn : n < 1000) (hu : A.units + 70 < cLine)
    (turn : ∀ (i : Int) (t0 : Tok), 0 ≤ i → i < n → ∀ (h : Heap) (tk : Nat), (∀ b o, s.heap.get? b = some o → h.get? b = some o) → wpAny (model prog w) A.in1.in1 (call (.ref f) [.int i t0]) (KeyPure (.int (key i)) { s with heap := h, toks := tk }) (fun _ _ => False) { s with heap := h, toks := tk })
    (q : ∀ (h1 : Heap) (tk1 : Nat) (h' : Heap) (tk : Nat) (out : List Value) (c : Nat), (∀ b o, s.heap.get? b = some o → h1.get? b = some o) → (∀ b o, h1.get? b = some o → h'.get? b = some o) → h'.get? h1.objs.size = some (seqObj "list" out.toArray c) → EachIs (fun v x => ∃ t, v = .int x t) out (((List.range n).map fun i : Nat => (i : Int)).mergeSort (dataLe false fun x => PyData.int (key x))) → Q (.ref h1.objs.size) { s with heap := h', toks := tk }) :
    wpAny (model prog w) A (call (.builtin "sorted") [.ref r] [(Str.ofString "key", .ref f)]) Q E s := by
  refine call_function_entry_kw kind_sorted plain_sorted entry_sorted (ksk_s1 (.ref r) (.ref f)) ?_
  unfold Builtin.«sorted»
  refine wpAny_bind (m := checkCount "sorted" 1 1 _) (wpAny_pure ?_)
  have sz : (n : Int) - 0 = n := by omega
  refine wpAny_bind (collect_range (A := A.in1) (n := n) hh hr (small_one (by omega) (by omega) (by omega) (by omega)) (by rw [rangeSize_nat, sz, Int.toNat_natCast]) (by omega) fun h1 tk1 acc k1 it => ?_)
  have al : acc.toList.length = n := by rw [Array.length_toList]; exact it.1
  have big : n ≤ sizeLine := by rw [sizeLine_eq]; omega
  refine wpAny_bind (wpAny_newList ?_ (by rw [al]; exact big))
  have hat : (h1.push (seqObj "list" acc.toList.toArray 0)).get? h1.objs.size = some (seqObj "list" acc.toList.toArray 0) := Heap.get?_push_size _ rfl
  have kp : ∀ b o, s.heap.get? b = some o → (h1.push (seqObj "list" acc.toList.toArray 0)).get? b = some o := fun b o e => Heap.get?_push_of_some _ (k1 b o e)
  have fresh : s.heap.get? h1.objs.size = none := by
    cases e : s.heap.get? h1.objs.size with
    | none => rfl
    | some o => exact absurd (Heap.lt_size (k1 _ _ e)) (Nat.lt_irrefl _)
  have each : EachIs (fun v x => ∃ t, v = Value.int x t) acc.toList ((List.range n).map fun i : Nat => (i : Int)) := by
    refine EachIs.of_zip (by simp [al]) fun p hp => ?_
    obtain ⟨j, hj⟩ := List.getElem?_of_mem hp
    rw [List.getElem?_zip_eq_some] at hj
    obtain ⟨t0, e⟩ := it.2 j p.1 (by rw [← Array.getElem?_toList]; exact hj.1)
    have h2 := hj.2
    rw [List.getElem?_map] at h2
    obtain ⟨k, hk, e2⟩ := Option.map_eq_some_iff.mp h2
    obtain ⟨hk1, hk2⟩ := List.getElem?_eq_some_iff.mp hk
    rw [List.getElem_range] at hk2
    refine ⟨t0, ?_⟩
    rw [e, ← e2, ← hk2]
    simp
  show wpAny (model prog w) A.in1 _ _ _ { s with heap := h1.push (seqObj "list" acc.toList.toArray 0), toks := tk1 }
  refine wpAny_bind (wpAny_holding (wpAny_call_entry_kw slot_list_sort ⟨_, hat, rfl⟩ entry_list_sort ?_ (ksk_l1 (.ref h1.objs.size) (.ref f))))
  rw [ksk_t1]
  have hal : AllAlike (((List.range n).map fun i : Nat => (i : Int)).map fun x => PyData.int (key x)) := AllAlike.of fun a b => by simp [alike]
  have hsk : Sortable (((List.range n).map fun i : Nat => (i : Int)).map fun x => PyData.int (key x)) := Sortable.others fun a => ⟨by simp, by simp⟩
  refine keyH_tree (kz := ((List.range n).map fun i : Nat => (i : Int)).map fun x => PyData.int (key x)) (s := { s with heap := h1.push (seqObj "list" acc.toList.toArray 0), toks := tk1 }) hat (by simp [al]) (by rw [al]; exact big) hal hsk (fun d hd => ?_)
    (keyH_turns (k := fun x => PyData.int (key x)) each fun v x ⟨t0, e⟩ hx h tk kb => ?_) fun h' tk out c kb hD ko => ⟨_, rfl, ?_⟩
  · obtain ⟨x, _, rfl⟩ := List.mem_map.mp hd
    show A.units + 1 + 1 + (PyData.int (key x)).depth < cLine
    have : (PyData.int (key x)).depth ≤ 1 := by simp [PyData.depth]
    omega
  · subst e
    obtain ⟨i, hi, rfl⟩ := List.mem_map.mp hx
    have hi := List.mem_range.mp hi
    exact turn i t0 (by omega) (by omega) h tk fun b o e => kb b o (fun z => by rw [z, fresh] at e; cases e) (kp b o e)
  · exact wpAny_pure ⟨_, rfl, q h1 tk1 h' tk out c k1 (fun b o e => kb b o (fun z => Nat.lt_irrefl _ (by have := Heap.lt_size e; rw [z] at this; exact this)) (Heap.get?_push_of_some _ e)) hD (keyedOut_each (fun x => PyData.int (key x)) ko each)⟩
end
section
variable {X : Cx} {pins : List (Addr × Obj)} {σ : L2.St} {H : Hp} {s : Shared}
/-- a lambda is made: the table of the def's code may get an entry more -/
theorem lam_new {c P : Addr} {params : Arguments} {body : Expr} {scope : Scope} {lp : Pos} {E Q : Value → Shared → Prop} (I : Inv X pins σ H s) (B : LamX.TabB X.base X.mg c P) (hcd : X.env.code = .ref c) (hq : X.env.qual ++ "<lambda>" = QL) (hT : LamX.TabS H P QL)
    (hdef : defaultsOf params X.env = ([], [])) (hfr : ∀ y ∈ scope.names, y.2 = .free → ∃ c, X.env.cells.lookup y.1 = some c)
    (h : ∀ (f k : Addr) (pm ctv : Value) (H1 : Hp) (s1 : Shared), Inv X pins σ H1 s1 → (∀ O S : Ps, (∀ a, O a → Trk H a) → Go O S H O S H1) → (∀ b o, s.heap.get? b = some o → o.cls ≠ .none → s1.heap.get? b = some o) → s1.heap.get? f = some (PySem.W.kla_obj "<lambda>" QL params body scope (cloFrom X.env.cells scope.names []) pm k ctv) → H1 k = some (LamX.CodeO k QL) → Q (.ref f) s1) :
    wpAny (model X.prog X.w) X.A (eval (.Lambda params body scope lp) X.env) Q E s := by
  obtain ⟨ps, hP, tr, am⟩ := hT
  refine PySem.W.kla_eval hdef ?_
  rw [hq]
  have bP := B.bm.keeps I.bk
  have at1 : s.heap.get? P = some { cls := .none, data := .fields ps } := I.hok P _ hP
  cases hc : codeAmong lp ps.toList with
  | some cv =>
    obtain ⟨k, rfl, hk⟩ := am lp cv hc
    refine PySem.W.kla_makeFunctionHit (mg := X.mg) (c := c) (P := P) (ps := ps) (closure_ok hfr) I.ok.glob (I.mod.glob.keeps I.bk) hcd (B.code.keeps I.bk) at1 tr hc bP fun ctv h' tk hx hz => ?_
    exact h h'.objs.size k _ ctv H _ (I.kept fun b o e => Heap.get?_push_of_some _ (hx b o e)) (fun O S _ => .refl) (fun b o e _ => Heap.get?_push_of_some _ (hx b o e)) (Heap.get?_push_size _ rfl) hk
  | none =>
    refine PySem.W.kla_makeFunction (mg := X.mg) (c := c) (P := P) (ps := ps) (closure_ok hfr) I.ok.glob (I.mod.glob.keeps I.bk) hcd (B.code.keeps I.bk) at1 tr hc B.gP bP fun k ctv h' tk hx lo hi hrec htb => ?_
    obtain ⟨k2, oc, us, t, e2, ho, hd, hv⟩ := hrec
    cases e2
    have nk : H k = none := I.hok.fresh lo
    have nPk : P ≠ k := fun z => by rw [z, nk] at hP; cases hP
    have I1 := LamX.inv_table (q := QL) (t' := tk) (more := #[rawInt lp.line, rawInt lp.col, .ref k]) (h' := h'.push (PySem.W.kla_obj "<lambda>" QL params body scope (cloFrom X.env.cells scope.names []) ((X.mg "__name__").getD .none) k ctv)) I hP
      (fun b o n e => Heap.get?_push_of_some _ (hx b o n e)) (Heap.get?_push_of_some _ htb) lo ⟨oc, us, t, Heap.get?_push_of_some _ ho, hd, hv⟩
    have eL : (ps ++ #[rawInt lp.line, rawInt lp.col, .ref k]).toList = ps.toList ++ [rawInt lp.line, rawInt lp.col, .ref k] := by simp
    refine h h'.objs.size k _ ctv _ _ I1 (fun O S tO => ⟨fun a o e n => ?_, fun a e => ?_, fun a e => ?_, fun a z => .inl z, fun a z => z, fun a z => .inl z⟩) (fun b o e nb => Heap.get?_push_of_some _ (hx b o (fun z => by
      rw [z, at1] at e
      cases e
      exact nb rfl) e)) (Heap.get?_push_size _ rfl) upd_same
    · by_cases aP : a = P
      · subst aP
        rw [hP] at e
        cases e
        refine .inr ⟨ps, _, rfl, by rw [upd_ne nPk, upd_same], fun _ => by rw [eL]; exact PySem.TriplesOk_snoc _ _ _ _ tr, fun pos cv hcv => ?_⟩
        rw [eL] at hcv
        rcases LamX.among_app _ tr hcv with z | z
        · exact .inl z
        · exact .inr ⟨k, z, upd_same⟩
      · exact .inl (by rw [upd_ne (ne_of_none e nk), upd_ne aP]; exact e)
    · rw [upd_ne (ne_of_none e nk), upd_ne (fun z => by
        rw [z, hP] at e
        unfold LamX.CodeO at e
        cases e)]
      exact e
    · by_cases ak : a = k
      · rw [ak, upd_same]; simp
      · rw [upd_ne ak]
        by_cases aP : a = P
        · rw [aP, upd_same]; simp
        · rw [upd_ne aP]; exact e
end
noncomputable def lsrt (ns : List Int) : List Int := ((List.range ns.length).map fun i : Nat => (i : Int)).mergeSort (PySem.W.dataLe false fun x => PyData.int (0 - ns.getD x.toNat 0))
noncomputable def srtKeyM (i : Nat) : Ev → Rs MD := fun ev => match ev[i]? with
  | some (some (_, .lst ds)) => match intsOf ds with
    | some ns => if ns.length < 1000 then .ok (.dp, .lst ((lsrt ns).map D.int)) ev else .no
    | none => .no
  | _ => .no
theorem vals_ints_each : ∀ {out : List Value} {xs : List Int}, PySem.W.EachIs (fun v x => ∃ t, v = Value.int x t) out xs → Vals (xs.map V.int) out
  | _, _, .nil => .nil
  | _, _, .cons h t => .cons h (vals_ints_each t)
section
variable {X : Cx} {mg : Str → Option Value} {W : WX}
theorem Good.goN {C : Cs} {H H1 : Hp} {O S L : Ps} {es : List En} (g : Good C H O S L es) (go : Go (fun _ => False) S H (fun _ => False) S H1) : Good C H1 O S L es := by
  obtain ⟨ol, e, nd, m⟩ := g.ex
  exact ⟨⟨ol, e.go go (fun _ z => z.elim) (fun _ _ z => z) (fun _ z => z.elim), nd, m⟩, g.os, g.sl, fun a h => go.live a (g.lv a h), go.tab (fun _ z => z.elim) g.tab⟩
def lamFB (sc scope : Scope) : Bool := scope.names.all fun y => !decide (y.2 = .free) || (decide (sc.names.lookup y.1 = some .cell) || decide (sc.names.lookup y.1 = some .free))
theorem lamF_by {sc scope : Scope} (h : lamFB sc scope = true) : ∀ y ∈ scope.names, y.2 = .free → sc.names.lookup y.1 = some .cell ∨ sc.names.lookup y.1 = some .free := fun y hy e => by
  have := List.all_eq_true.mp h y hy
  simpa [e] using this
theorem e_srtKey {i kk : Nat} {nm pa : Str} {c P : Addr} {params : Arguments} {scope : Scope} {j : Nat} {p1 p2 p3 p4 p5 p6 pos lp kp q0 q1 q2 q3 q4 : Pos} (hr : Room kk X.A) (hc : X.calm = true) (hg : Gl X "sorted") (hm : X.mg "sorted" = none) (hgr : Gl X "range") (hmr : X.mg "range" = none) (hgl : Gl X "len") (hml : X.mg "len" = none)
    (hN : X.N[i]? = some nm) (hv : Vis X.env.scope nm) (B : LamX.TabB X.base X.mg c P) (hcd : X.env.code = .ref c) (hq : X.env.qual ++ "<lambda>" = QL) (hP : Tbl.tb P)
    (hdef : defaultsOf params X.env = ([], [])) (sk : scope.kind = .function) (sc : scope.isCoroutine = false) (sg : scope.isGenerator = false) (sn : ∀ y ∈ scope.names, y.2 ≠ .cell) (spa : scope.names.lookup pa = some .local) (snm : scope.names.lookup nm = some .free)
    (sfb : lamFB X.env.scope scope = true) (nloc : X.env.scope.names.lookup nm = some .cell)
    (hb : ∀ (q : Str) (cl : List (Str × Addr)) (pm cv ctv v : Value), bindArgs (PySem.W.kla_fn "<lambda>" q params (.BinOp (.Constant (.int 0) j q0) .Sub (.Subscript (.Name nm q1) (.Name pa q2) q3) q4) scope cl pm cv ctv) ⟨[v], []⟩ = pure [(pa, v)])
    (d1 : (nm == ("__debug__" : Str)) = false) (d2 : (pa == ("__debug__" : Str)) = false) (d3 : (nm == ("__classdict__" : Str)) = false)
    (na : starEach [.Call (.Name "range" p2) [.Call (.Name "len" p3) [.Name nm p4] [] p5] [] p6] X.env = (false, eval (.Call (.Name "range" p2) [.Call (.Name "len" p3) [.Name nm p4] [] p5] [] p6) X.env) :: starEach [] X.env := by rfl)
    (nb : starEach [.Call (.Name "len" p3) [.Name nm p4] [] p5] X.env = (false, eval (.Call (.Name "len" p3) [.Name nm p4] [] p5) X.env) :: starEach [] X.env := by rfl)
    (hpl : (backTo pos (starEach [.Call (.Name "range" p2) [.Call (.Name "len" p3) [.Name nm p4] [] p5] [] p6] X.env)).any (·.1) = false := by rfl) :
    PE X (.Call (.Name "sorted" p1) [.Call (.Name "range" p2) [.Call (.Name "len" p3) [.Name nm p4] [] p5] [] p6] [⟨some "key", .Lambda params (.BinOp (.Constant (.int 0) j q0) .Sub (.Subscript (.Name nm q1) (.Name pa q2) q3) q4) scope lp, kp⟩] pos) (tE (KL X.K) mg W (srtKeyM i)) := by
  have sf := lamF_by sfb
  refine ⟨fun pins s σ H Q I h => ?_⟩
  obtain ⟨ev, O, S, L, ft, gd, k⟩ := h
  unfold srtKeyM at k
  split at k
  · rename_i m ds e0
    split at k
    · rename_i ns hns
      split at k
      · rename_i hlen
        obtain ⟨v0, own, e1, hent⟩ := slot_ent ft gd e0
        obtain ⟨f0, r0⟩ := hent.rep
        obtain ⟨a0, xs0, f1, rfl, rr0, sq0⟩ := r0
        obtain rfl := reps_ints rr0 hns
        have hdl : ds.length = ns.length := by have := rr0.length; rw [List.length_map] at this; exact this.symm
        have sq : SqL X.K H a0 (ns.map V.int) := sq_of sq0
        refine wpAny_Call_Name_kw (ld_blt I hg hm PyProof.Rows.boot_sorted ?_)
        refine PyProof.Rows.callWith_kw ?_ (by rw [na]; rfl) hpl rfl rfl
        have pl : PE X (.Call (.Name "len" p3) [.Name nm p4] [] p5) (tP (KL X.K) (T6.p1 gLen (pName i))) := p_cb call_len prl_len hgl hml boot_len (r_name (pe_var hN hv d1 d3))
        refine args_cons (thn (prg_1 hgr hmr pl nb pins s σ H (fun a b H' => a = 0 ∧ b = (ns.length : Int) ∧ H' = H) I ⟨ev, O, S, L, ft, gd, .fl (.int ns.length), by simp [T6.p1, pName, e0, Pv.d, gLen, hdl], fun v hv => ?_⟩) fun x s1 ⟨r, a, b, t, u, v, H1, ex, hr1, I1, ea, eb, eH⟩ => args_nil ?_) na
        · exact ⟨_, rep_int hv.2, rfl, rfl, rfl⟩
        · subst ex ea eb eH
          show wpAny _ _ (evalAll [do let v ← eval _ X.env; standAt pos; pure v]) _ _ s1
          have hfr : ∀ y ∈ scope.names, y.2 = .free → ∃ c, X.env.cells.lookup y.1 = some c := fun y hy e => by
            rcases sf y hy e with z | z
            · exact I1.ok.has _ (.inl z)
            · exact I1.ok.has _ (.inr z)
          refine wpAny_evalAll_cons (wpAny_bind (lam_new I1 B hcd hq (gd.tab P hP) hdef hfr fun f k0 pm ctv H2 s2 I2 go hst hf hk => wpAny_bind (wpAny_standAt (wpAny_pure (wpAny_evalAll_nil ?_)))))
          have go0 := go (fun _ => False) S fun _ z => z.elim
          have sq2 : SqL X.K H2 a0 (ns.map V.int) := by
            rcases sq with (z | ⟨o, z⟩) | z
            · exact .inl (.inl ((go0.keep _ _ z fun q => q).eq fun ps q => nomatch q))
            · exact .inl (.inr ⟨o, (go0.keep _ _ z fun q => q).eq fun ps q => nomatch q⟩)
            · exact .inr z
          have hr2 : IsRange s2.heap r 0 (ns.length : Int) 1 t u v := hst _ _ hr1 (by simp)
          show wpAny _ _ (call (.builtin "sorted") [.ref r] [(Str.ofString "key", .ref f)]) _ _ s2
          refine srt_range (key := fun x => 0 - ns.getD x.toNat 0) (I2.ok.hd hc) hr2 hlen (by have := hr.un; omega) (fun x t0 x0 x1 h tk kh => ?_) fun h1 tk1 h' tk out cc kh1 kh2 hD each => ?_
          · have I3 : Inv X pins σ H2 { s2 with heap := h, toks := tk } := I2.kept kh
            obtain ⟨its, rv, pl2, _⟩ := I3.list sq2
            obtain ⟨mm, hns2, hloc⟩ := I3.loc
            obtain ⟨u0, ru, hcl⟩ := hloc i nm _ hN e1 hv
            have ru : u0 = Value.ref a0 := by cases ru; rfl
            subst ru
            rcases hcl with ⟨z, _⟩ | ⟨_, c0, hc0, hcell⟩
            · have z : X.env.scope.names.lookup nm = some .local := z
              rw [nloc] at z; cases z
            · have hk3 := I3.hok k0 _ hk
              obtain ⟨⟨oc, us, tq, w1, w2, w3⟩, _, _⟩ := hk3
              have hx : x.toNat < ns.length := by omega
              have hg : (ns.map V.int)[x.toNat]? = some (V.int (ns.getD x.toNat 0)) := by
                rw [List.getElem?_map, List.getElem?_eq_getElem hx, List.getD_eq_getElem?_getD, List.getElem?_eq_getElem hx]; rfl
              obtain ⟨w, ew, rw'⟩ := rv.get hg
              obtain ⟨t2, rfl⟩ := rw'
              have hlk : (cloFrom X.env.cells scope.names []).lookup nm = some c0 := by
                obtain ⟨c1, z⟩ := mem_lookup (cloFrom_has (cells := X.env.cells) (acc := []) (PySem.mem_of_lookup snm))
                rcases cloFrom_mem (PySem.mem_of_lookup z) with y | ⟨_, y⟩
                · cases y
                · rw [z, y, hc0]; rfl
              exact lam_call (c := c0) (a := a0) (its := its) (t2 := t2) (by have := hr.dp; show X.A.depth < recursionLimit; omega) (kh _ _ hf) ⟨k0, oc, us, tq, rfl, w1, w2, w3⟩ sk sc sg sn spa snm (hb _ _ _ _ _ _) hlk hcell pl2.isList x0 (by omega) (by simpa using ew) I3.nolimit d1 d2 d3
          · have I4 : Inv X pins σ H2 { s2 with heap := h1, toks := tk1 } := I2.kept kh1
            have fr : H2 h1.objs.size = none := I4.hok.fresh (Nat.le_refl _)
            have ll : (lsrt ns).length = ns.length := by unfold lsrt; rw [List.length_mergeSort, List.length_map, List.length_range]
            have vo : Vals ((lsrt ns).map V.int) out := vals_ints_each each
            have I5 := I4.laid (t' := tk) kh2 (Nat.le_refl _) (o := .lst ((lsrt ns).map V.int)) ⟨by rw [List.length_map, ll, sizeLine_eq]; omega, out, cc, vo, hD⟩
            have p2 : Pst (KL X.K) L (fun _ => True) σ ev O S H1 [] ev [] σ O S H2 := ⟨ft, .refl _ _, rfl, by simp, gd.goN go0, go O S gd.trk⟩
            obtain ⟨r4, k4, p4⟩ := newL_ok (s := true) (ds := (lsrt ns).map D.int) p2 reps_of_ints (by simp) (show Aft (KL X.K) mg σ ev O S L H1 W (newL true _ ev) _ by rw [x_newL, if_pos flats_int]; exact k)
            obtain ⟨O5, S5, p5⟩ := p4 _ fr
            exact ⟨.ref h1.objs.size, _, I5, rfl, k4 _ _ _ _ p5⟩
      · exact k.elim
    · exact k.elim
  · exact k.elim
end
/-- a def whose code's address is known -/
theorem fn_okC {Pg : Program} {w : World} {K : PySem.W.Frag} {mg : Str → Option Value} {base : Heap} {x qual : Str} {st : Stmt} {f lc : Addr} {fd : FuncData} {N ps : List Str} {k : Nat} {ks : List Bool} {s : Ev → Fl} (F : Fun K x qual st f fd) (S : FnScope N ps (defScope st)) (hp : ps.length = ks.length) (hlc : fd.code = .ref lc)
    (hbody : ∀ (A : Around) (outer : List Env) (s1 : Shared) (H : Hp) (E : XK), Room k (A.deeper (envOfC qual (defScope st) s1.heap.objs.size f (.ref lc))) → PSs (cxOf (L2.CX Pg w) Pg w K mg base N qual (defScope st) f (.ref lc) A outer s1 H E) (defBody st) (tS (KL K) mg (keeps ks) (fun cls d _ H => E cls d H) s)) :
    FnOk Pg w K mg base (L2.CX Pg w) (k + 1) f fd ps (spF (KL K) mg (bodyF N.length ks s)) := by
  have le : ks.length ≤ N.length := by rw [← hp, ← S.pre, List.length_take]; omega
  obtain ⟨oc, od, kV, doc, pm, an, cdv, ct, osl, rfl, lk, hcd⟩ := F.ex
  obtain rfl : cdv = .ref lc := hlc
  refine fn_of lk hcd S (fun vs H Q E h => by rw [hp]; exact (body_ok le h).1) fun A outer s H vs Q E hr h => ?_
  obtain ⟨hv, h2⟩ := body_ok le h
  refine ⟨_, hbody A outer s H E hr, ?_⟩
  have e : L2.start N vs = vs.map some ++ List.replicate (N.length - ks.length) none := by rw [L2.start, hv]
  rw [e]
  exact h2
@[simp] theorem x_srtKey {i : Nat} {ev : Ev} : srtKeyM i ev = (match ev[i]? with
  | some (some (_, .lst ds)) => match intsOf ds with
    | some ns => if ns.length < 1000 then .ok (.dp, .lst ((lsrt ns).map D.int)) ev else .no
    | none => .no
  | _ => .no) := rfl
end T6

namespace T6
noncomputable section
variable [Tbl]
open PySem PySem.Spec PyProof.Rows L2
def topS (i : Nat) : Stmt := PySem.Challenge.pw_sixtellings_k36_one_of_each_group.main.body.getD i (.Pass ⟨0, 0, 0, 0⟩)
abbrev st_short : Stmt := topS 1
abbrev st_tails_of : Stmt := topS 2
abbrev st_longer_ones : Stmt := topS 3
abbrev st__law_cell : Stmt := topS 6
abbrev st__law_due : Stmt := topS 10
abbrev st_choices : Stmt := topS 4
abbrev st__law_take : Stmt := topS 7
abbrev st__law_groups : Stmt := topS 8
abbrev st__law_numbers : Stmt := topS 9
abbrev st_law : Stmt := topS 11
/-! ### short -/
def s_short_1 : Ev → Fl :=
  (unpV [2, 3] (pName 0))
def s_short_2 : Ev → Fl :=
  (retS (lockS 3 (opA (kF2 gSub) (aV (pName 3) (aL (opA (kF1 gSum) (aL (lockS 1 (lockS 2 (lcM ((aV (pName 2) (aV (pName 1) aNil)) kZip) [4, 5] [4, 5] (liftB (pB (p2 gEq (pName 5) (pC (.int 1))))) (capM (pName 4))))) aNil)) aNil)))))
def b_short : Ev → Fl :=
  (seqS s_short_1
  s_short_2)
def F_short : List MD → Rf := bodyF 6 [true, true] b_short
theorem w_short {a0 a1 : MD} {N : MD → Ev → Prop} {X : Str → Option MD → Ev → Prop} (h : (b_short [some a0, some a1, none, none, none, none]).wp (bodyW [true, true] N X)) : (F_short [a0, a1]).wp N X := wp_bodyX rfl rfl h

/-! ### tails_of -/
def s_tails_of_1 : Ev → Fl :=
  (setS 1 (lstM (consM (capM (pC (.int 0))) nilM)))
def s_tails_of_3 : Ev → Fl :=
  (exprS (appE 1 (capM (p2 gAdd (pIx (pName 1) (p1 gNeg (pC (.int 1)))) (pName 2)))))
def l_tails_of_2 : Ev → Fl :=
  s_tails_of_3
def s_tails_of_2 : Ev → Fl :=
  (forS (srcM true (lockS 0 (opA (kL1 gRev) (aV (pName 0) aNil)))) [2] l_tails_of_2)
def s_tails_of_4 : Ev → Fl :=
  (retS (lockS 1 (opA (kL1 gRev) (aV (pName 1) aNil))))
def b_tails_of : Ev → Fl :=
  (seqS s_tails_of_1
  (seqS s_tails_of_2
  s_tails_of_4))
def F_tails_of : List MD → Rf := bodyF 3 [true] b_tails_of
theorem w_tails_of {a0 : MD} {N : MD → Ev → Prop} {X : Str → Option MD → Ev → Prop} (h : (b_tails_of [some a0, none, none]).wp (bodyW [true] N X)) : (F_tails_of [a0]).wp N X := wp_bodyX rfl rfl h

/-! ### longer_ones -/
def s_longer_ones_1 : Ev → Fl :=
  (setS 3 (lstM nilM))
def s_longer_ones_4 : Ev → Fl :=
  (exprS (appE 3 (tupM (consM (capM (p2 gSub (pName 4) (pName 1))) (consM (lockS 5 (opA kAdd (aV (pName 5) (aL (lstM (consM (capM (pC (.int 1))) nilM)) aNil)))) nilM)))))
def s_longer_ones_3 : Ev → Fl :=
  (ifP (bChain gLe gLe (pC (.int 0)) (p2 gSub (pName 4) (pName 1)) (pName 2)) s_longer_ones_4 skipS)
def s_longer_ones_6 : Ev → Fl :=
  (exprS (appE 3 (tupM (consM (capM (pName 4)) (consM (lockS 5 (opA kAdd (aV (pName 5) (aL (lstM (consM (capM (pC (.int 0))) nilM)) aNil)))) nilM)))))
def s_longer_ones_5 : Ev → Fl :=
  (ifP (pB (p2 gLe (pName 4) (pName 2))) s_longer_ones_6 skipS)
def l_longer_ones_2 : Ev → Fl :=
  (seqS s_longer_ones_3
  s_longer_ones_5)
def s_longer_ones_2 : Ev → Fl :=
  (forS (srcV false (pName 0)) [4, 5] l_longer_ones_2)
def s_longer_ones_7 : Ev → Fl :=
  (retS (mvM 3))
def b_longer_ones : Ev → Fl :=
  (seqS s_longer_ones_1
  (seqS s_longer_ones_2
  s_longer_ones_7))
def F_longer_ones : List MD → Rf := bodyF 6 [true, true, true] b_longer_ones
theorem w_longer_ones {a0 a1 a2 : MD} {N : MD → Ev → Prop} {X : Str → Option MD → Ev → Prop} (h : (b_longer_ones [some a0, some a1, some a2, none, none, none]).wp (bodyW [true, true, true] N X)) : (F_longer_ones [a0, a1, a2]).wp N X := wp_bodyX rfl rfl h

/-! ### _law_cell -/
def s_law_cell_1 : Ev → Fl :=
  (setV 2 (pC (.int 7)))
def s_law_cell_3 : Ev → Fl :=
  (setV 2 (pIx (pName 0) (p2 gMod (pName 1) (p1 gLen (pName 0)))))
def s_law_cell_2 : Ev → Fl :=
  (ifP (pB (p2 gGt (p1 gLen (pName 0)) (pC (.int 0)))) s_law_cell_3 skipS)
def s_law_cell_4 : Ev → Fl :=
  (retS (capM (p2 gDiv (p2 gMod (p2 gAdd (p2 gAdd (p2 gAdd (p2 gMul (pName 2) (pC (.int 69621))) (p2 gMul (p2 gMul (pName 1) (pName 1)) (pC (.int 30011)))) (p2 gMul (pC (.int 11)) (pName 1))) (pC (.int 5))) (pC (.int 2147483647))) (pC (.int 3)))))
def b__law_cell : Ev → Fl :=
  (seqS s_law_cell_1
  (seqS s_law_cell_2
  s_law_cell_4))
def F__law_cell : List MD → Rf := bodyF 3 [true, true] b__law_cell
theorem w__law_cell {a0 a1 : MD} {N : MD → Ev → Prop} {X : Str → Option MD → Ev → Prop} (h : (b__law_cell [some a0, some a1, none]).wp (bodyW [true, true] N X)) : (F__law_cell [a0, a1]).wp N X := wp_bodyX rfl rfl h

/-! ### _law_due -/
def s_law_due_1 : Ev → Fl :=
  (setS 2 (lstM (consM (tupM (consM (lstM nilM) (consM (lstM nilM) nilM))) nilM)))
def s_law_due_3 : Ev → Fl :=
  (setS 4 (lstM nilM))
def s_law_due_5 : Ev → Fl :=
  (exprS (appE 4 (tupM (consM (lockS 5 (opA kAdd (aV (pName 5) (aL (lstM (consM (capM (pC (.int 0))) nilM)) aNil)))) (consM (capM (pName 6)) nilM)))))
def s_law_due_7 : Ev → Fl :=
  (exprS (appE 4 (tupM (consM (lockS 5 (opA kAdd (aV (pName 5) (aL (lstM (consM (capM (pC (.int 1))) nilM)) aNil)))) (consM (lockS 3 (lockS 6 (opA kAdd (aV (pName 6) (aV (pName 3) aNil))))) nilM)))))
def s_law_due_6 : Ev → Fl :=
  (ifS (bM (opA (kF2 gEq) (aL (opA (kF1 gLen) (aL (lockS 3 (lcM (srcV true (pName 3)) [7] [7] (liftB (pB (p2 gIn (pName 7) (pName 6)))) (capM (pName 7)))) aNil)) (aV (pC (.int 0)) aNil)))) s_law_due_7 skipS)
def l_law_due_4 : Ev → Fl :=
  (seqS s_law_due_5
  s_law_due_6)
def s_law_due_4 : Ev → Fl :=
  (forS (srcM false (capM (pName 2))) [5, 6] l_law_due_4)
def s_law_due_8 : Ev → Fl :=
  (setS 2 (mvM 4))
def l_law_due_2 : Ev → Fl :=
  (seqS s_law_due_3
  (seqS s_law_due_4
  s_law_due_8))
def s_law_due_2 : Ev → Fl :=
  (forS (srcV true (pName 0)) [3] l_law_due_2)
def s_law_due_9 : Ev → Fl :=
  (retS (opA (kL1 gSortD) (aL (lcM (srcM false (capM (pName 2))) [5, 6] [5, 6] (liftB (pB (p2 gEq (p1 gLen (pName 6)) (pName 1)))) (capM (pName 5))) aNil)))
def b__law_due : Ev → Fl :=
  (seqS s_law_due_1
  (seqS s_law_due_2
  s_law_due_9))
def F__law_due : List MD → Rf := bodyF 8 [true, true] b__law_due
theorem w__law_due {a0 a1 : MD} {N : MD → Ev → Prop} {X : Str → Option MD → Ev → Prop} (h : (b__law_due [some a0, some a1, none, none, none, none, none, none]).wp (bodyW [true, true] N X)) : (F__law_due [a0, a1]).wp N X := wp_bodyX rfl rfl h

/-! ### choices -/
def s_choices_1 : Ev → Fl :=
  (unpV [1, 2] (pName 0))
def s_choices_2 : Ev → Fl :=
  (setS 3 (srtKeyM 1))
def s_choices_3 : Ev → Fl :=
  (setS 4 (shM (lcM (srcM true (capM (pName 3))) [13] [13] tYesM (capM (pIx (pName 1) (pName 13))))))
def s_choices_4 : Ev → Fl :=
  (setS 5 (lockS 4 ((aV (pName 4) aNil) (callF F_tails_of))))
def s_choices_5 : Ev → Fl :=
  (setS 6 (lstM (consM (tupM (consM (capM (pName 2)) (consM (lstM nilM) nilM))) nilM)))
def s_choices_7 : Ev → Fl :=
  (setS 6 (lstM nilM))
def s_choices_6 : Ev → Fl :=
  (ifP (pB (p2 gGt (pName 2) (pIx (pName 5) (pC (.int 0))))) s_choices_7 skipS)
def s_choices_9 : Ev → Fl :=
  (setS 6 (lockS 5 (lockS 8 (lockS 6 ((aV (pName 6) (aV (pName 8) (aV (pIx (pName 5) (p2 gAdd (pName 7) (pC (.int 1)))) aNil))) (callF F_longer_ones))))))
def l_choices_8 : Ev → Fl :=
  s_choices_9
def s_choices_8 : Ev → Fl :=
  (forS ((aV (pName 4) aNil) kEnum) [7, 8] l_choices_8)
def s_choices_10 : Ev → Fl :=
  (setS 9 (lstM nilM))
def s_choices_12 : Ev → Fl :=
  (setS 12 (lockS 1 (lcM (srcV true (pName 1)) [8] [8] tYesM (capM (pC (.int 0))))))
def s_choices_14 : Ev → Fl :=
  (setIS 12 pthN (capM (pName 14)) (pName 13))
def l_choices_13 : Ev → Fl :=
  s_choices_14
def s_choices_13 : Ev → Fl :=
  (forS ((aV (pName 3) (aV (pName 11) aNil)) kZip) [13, 14] l_choices_13)
def s_choices_15 : Ev → Fl :=
  (exprS (appE 9 (mvM 12)))
def l_choices_11 : Ev → Fl :=
  (seqS s_choices_12
  (seqS s_choices_13
  s_choices_15))
def s_choices_11 : Ev → Fl :=
  (forS (srcM false (capM (pName 6))) [10, 11] l_choices_11)
def s_choices_16 : Ev → Fl :=
  (retS (srtMO 9))
def b_choices : Ev → Fl :=
  (seqS s_choices_1
  (seqS s_choices_2
  (seqS s_choices_3
  (seqS s_choices_4
  (seqS s_choices_5
  (seqS s_choices_6
  (seqS s_choices_8
  (seqS s_choices_10
  (seqS s_choices_11
  s_choices_16)))))))))
def F_choices : List MD → Rf := bodyF 15 [true] b_choices
theorem w_choices {a0 : MD} {N : MD → Ev → Prop} {X : Str → Option MD → Ev → Prop} (h : (b_choices [some a0, none, none, none, none, none, none, none, none, none, none, none, none, none, none]).wp (bodyW [true] N X)) : (F_choices [a0]).wp N X := wp_bodyX rfl rfl h

/-! ### _law_take -/
def s_law_take_1 : Ev → Fl :=
  (setIS 0 pthN (capM (p2 gAdd (pIx (pName 0) (pC (.int 1))) (pC (.int 1)))) (pC (.int 1)))
def s_law_take_2 : Ev → Fl :=
  (retS (lockS 1 (opA (kF2 gMod) (aL (lockS 0 ((aV (pIx (pName 0) (pC (.int 0))) (aV (pIx (pName 0) (pC (.int 1))) aNil)) (callF F__law_cell))) (aV (pName 1) aNil)))))
def b__law_take : Ev → Fl :=
  (seqS s_law_take_1
  s_law_take_2)
def F__law_take : List MD → Rf := bodyF 2 [true, true] b__law_take
theorem w__law_take {a0 a1 : MD} {N : MD → Ev → Prop} {X : Str → Option MD → Ev → Prop} (h : (b__law_take [some a0, some a1]).wp (bodyW [true, true] N X)) : (F__law_take [a0, a1]).wp N X := wp_bodyX rfl rfl h

/-! ### _law_groups -/
def s_law_groups_1 : Ev → Fl :=
  (setS 1 (lstM nilM))
def s_law_groups_2 : Ev → Fl :=
  (setV 2 (pC (.int 1)))
def s_law_groups_4 : Ev → Fl :=
  (setS 4 (opA (kF2 gMin) (aL (opA (kF2 gAdd) (aV (pC (.int 1)) (aL ((aM 0 (aV (pC (.int 4)) aNil)) (callF F__law_take)) aNil))) (aV (p2 gDiv (pC (.int 100)) (pName 2)) aNil))))
def s_law_groups_5 : Ev → Fl :=
  (exprS (appE 1 (capM (p2 gMax (pC (.int 1)) (pName 4)))))
def s_law_groups_6 : Ev → Fl :=
  (setV 2 (p2 gMul (pName 2) (p2 gMax (pC (.int 1)) (pName 4))))
def l_law_groups_3 : Ev → Fl :=
  (seqS s_law_groups_4
  (seqS s_law_groups_5
  s_law_groups_6))
def s_law_groups_3 : Ev → Fl :=
  (forS ((aL (opA (kF2 gAdd) (aV (pC (.int 1)) (aL ((aM 0 (aV (pC (.int 8)) aNil)) (callF F__law_take)) aNil))) aNil) kRng1) [3] l_law_groups_3)
def s_law_groups_7 : Ev → Fl :=
  (retS (mvM 1))
def b__law_groups : Ev → Fl :=
  (seqS s_law_groups_1
  (seqS s_law_groups_2
  (seqS s_law_groups_3
  s_law_groups_7)))
def F__law_groups : List MD → Rf := bodyF 5 [true] b__law_groups
theorem w__law_groups {a0 : MD} {N : MD → Ev → Prop} {X : Str → Option MD → Ev → Prop} (h : (b__law_groups [some a0, none, none, none, none]).wp (bodyW [true] N X)) : (F__law_groups [a0]).wp N X := wp_bodyX rfl rfl h

/-! ### _law_numbers -/
def s_law_numbers_1 : Ev → Fl :=
  (setS 2 (lstM nilM))
def s_law_numbers_4 : Ev → Fl :=
  (setS 5 (lstM (consM (capM (pName 3)) nilM)))
def s_law_numbers_6 : Ev → Fl :=
  (exprS (appE 5 ((aM 0 (aV (pName 3) aNil)) (callF F__law_take))))
def s_law_numbers_5 : Ev → Fl :=
  (ifS (andM (liftB (pB (p2 gGt (pName 3) (pC (.int 0))))) (bM (opA (kF2 gEq) (aL ((aM 0 (aV (pC (.int 4)) aNil)) (callF F__law_take)) (aV (pC (.int 0)) aNil))))) s_law_numbers_6 skipS)
def s_law_numbers_7 : Ev → Fl :=
  (exprS (insE 2 ((aM 0 (aV (p2 gAdd (p1 gLen (pName 2)) (pC (.int 1))) aNil)) (callF F__law_take)) (mvM 5)))
def l_law_numbers_3 : Ev → Fl :=
  (seqS s_law_numbers_4
  (seqS s_law_numbers_5
  s_law_numbers_7))
def s_law_numbers_3 : Ev → Fl :=
  (forS ((aV (pIx (pName 1) (pName 3)) aNil) kRng1) [4] l_law_numbers_3)
def l_law_numbers_2 : Ev → Fl :=
  s_law_numbers_3
def s_law_numbers_2 : Ev → Fl :=
  (forS ((aV (p1 gLen (pName 1)) aNil) kRng1) [3] l_law_numbers_2)
def s_law_numbers_8 : Ev → Fl :=
  (retS (mvM 2))
def b__law_numbers : Ev → Fl :=
  (seqS s_law_numbers_1
  (seqS s_law_numbers_2
  s_law_numbers_8))
def F__law_numbers : List MD → Rf := bodyF 6 [true, true] b__law_numbers
theorem w__law_numbers {a0 a1 : MD} {N : MD → Ev → Prop} {X : Str → Option MD → Ev → Prop} (h : (b__law_numbers [some a0, some a1, none, none, none, none]).wp (bodyW [true, true] N X)) : (F__law_numbers [a0, a1]).wp N X := wp_bodyX rfl rfl h

/-! ### law -/
def s_law_1 : Ev → Fl :=
  (setS 1 (lstM (consM (capM (pName 0)) (consM (capM (pC (.int 0))) nilM))))
def s_law_2 : Ev → Fl :=
  (setS 2 ((aM 1 aNil) (callF F__law_groups)))
def s_law_3 : Ev → Fl :=
  (setS 3 (lockS 2 ((aM 1 (aV (pName 2) aNil)) (callF F__law_numbers))))
def s_law_4 : Ev → Fl :=
  (setS 4 (lstM (consM (capM (pC (.int 1))) nilM)))
def s_law_6 : Ev → Fl :=
  (exprS (appE 4 (capM (p2 gMul (pIx (pName 4) (p1 gNeg (pC (.int 1)))) (pC (.int 40))))))
def l_law_5 : Ev → Fl :=
  s_law_6
def s_law_5 : Ev → Fl :=
  (forS (srcM true (lockS 2 (opA kSlA (aV (pName 2) (aV (pC (.int 1)) aNil))))) [5] l_law_5)
def s_law_7 : Ev → Fl :=
  (setS 6 (lcM (srcM true (capM (pName 3))) [10] [10] tYesM (opA (kF1 gSum) (aL (lockS 10 (lcM (srcV true (pName 10)) [5] [5] tYesM (capM (pIx (pName 4) (pName 5))))) aNil))))
def s_law_8 : Ev → Fl :=
  (setS 7 (tupM (consM (capM (pName 6)) (consM (capM (p1 gSum (pName 4))) nilM))))
def s_law_9 : Ev → Fl :=
  (setS 8 (lockS 3 ((aV (pName 3) (aV (p1 gLen (pName 2)) aNil)) (callF F__law_due))))
def s_law_10 : Ev → Fl :=
  (setS 9 (tupM (consM (lockS 6 (opA (kL1 seqD) (aV (pName 6) aNil))) (consM (capM (pIx (pName 7) (pC (.int 1)))) nilM))))
def s_law_11 : Ev → Fl :=
  (ifS (orM (lockS 8 (bM (opA (kF2 gNe) (aL (lockS 9 ((aV (pName 9) aNil) (callF F_choices))) (aV (pName 8) aNil))))) (orM (liftB (pB (p2 gNe (pName 9) (pName 7)))) (lockS 8 (bM (opA (kF2 gNe) (aL (lockS 9 ((aV (pName 9) aNil) (callF F_choices))) (aV (pName 8) aNil))))))) (retS (capM (pC (.bl false)))) skipS)
def s_law_13 : Ev → Fl :=
  (retS (opA (kF1 gAll) (aL (lcM (srcM true (capM (pName 8))) [11] [11] tYesM (opA (kF2 gEq) (aL (lockS 11 (lockS 7 ((aV (pName 7) (aV (pName 11) aNil)) (callF F_short)))) (aV (pC (.int 0)) aNil)))) aNil)))
def b_law : Ev → Fl :=
  (seqS s_law_1
  (seqS s_law_2
  (seqS s_law_3
  (seqS s_law_4
  (seqS s_law_5
  (seqS s_law_7
  (seqS s_law_8
  (seqS s_law_9
  (seqS s_law_10
  (seqS s_law_11
  s_law_13))))))))))
def F_law : List MD → Rf := bodyF 12 [true] b_law
theorem w_law {a0 : MD} {N : MD → Ev → Prop} {X : Str → Option MD → Ev → Prop} (h : (b_law [some a0, none, none, none, none, none, none, none, none, none, none, none]).wp (bodyW [true] N X)) : (F_law [a0]).wp N X := wp_bodyX rfl rfl h

structure Tb (K : PySem.W.Frag) (mg : Str → Option Value) where
  f_short : Addr
  d_short : FuncData
  o_short : Fd K mg "short" st_short ["total", "choice"] f_short d_short
  f_tails_of : Addr
  d_tails_of : FuncData
  o_tails_of : Fd K mg "tails_of" st_tails_of ["numbers"] f_tails_of d_tails_of
  f_longer_ones : Addr
  d_longer_ones : FuncData
  o_longer_ones : Fd K mg "longer_ones" st_longer_ones ["begun", "number", "tail"] f_longer_ones d_longer_ones
  f__law_cell : Addr
  d__law_cell : FuncData
  o__law_cell : Fd K mg "_law_cell" st__law_cell ["_law_script", "_law_k"] f__law_cell d__law_cell
  f__law_due : Addr
  d__law_due : FuncData
  o__law_due : Fd K mg "_law_due" st__law_due ["_law_rows", "_law_many"] f__law_due d__law_due
  f_choices : Addr
  d_choices : FuncData
  o_choices : Fd K mg "choices" st_choices ["total"] f_choices d_choices
  f__law_take : Addr
  d__law_take : FuncData
  o__law_take : Fd K mg "_law_take" st__law_take ["_law_pen", "_law_most"] f__law_take d__law_take
  f__law_groups : Addr
  d__law_groups : FuncData
  o__law_groups : Fd K mg "_law_groups" st__law_groups ["_law_pen"] f__law_groups d__law_groups
  f__law_numbers : Addr
  d__law_numbers : FuncData
  o__law_numbers : Fd K mg "_law_numbers" st__law_numbers ["_law_pen", "_law_groups_here"] f__law_numbers d__law_numbers
  f_law : Addr
  d_law : FuncData
  o_law : Fd K mg "law" st_law ["_law_script"] f_law d_law
  z_all : mg "all" = none
  z_enumerate : mg "enumerate" = none
  z_len : mg "len" = none
  z_list : mg "list" = none
  z_max : mg "max" = none
  z_min : mg "min" = none
  z_range : mg "range" = none
  z_sorted : mg "sorted" = none
  z_sum : mg "sum" = none
  z_zip : mg "zip" = none
  lc : Addr
  lP : Addr
  lcode : d_choices.code = .ref lc
  ltb : Tbl.tb lP

section
variable {P : Program} {w : World} {K : PySem.W.Frag} {mg : Str → Option Value} {base : Heap}
theorem sc_short : FnScope ["total", "choice", "numbers", "due", "number", "one"] ["total", "choice"] (defScope st_short) := ⟨rfl, rfl, rfl, by decide +kernel, rfl, by decide +kernel, by decide +kernel⟩
theorem ok_short (T : Tb K mg) : FnOk P w K mg base (L2.CX P w) 1 T.f_short T.d_short ["total", "choice"] (spF (KL K) mg F_short) :=
  fn_ok (ks := [true, true]) T.o_short.fn sc_short rfl (fun cdv A outer s1 H E hr =>
  (s_cons (s_unpV (r_name (pv 0)) (pg_tup rfl (pgs_cons (pg_name (i := 2) sc_short.nd rfl (by first | exact .inl rfl | exact .inr rfl)) (pgs_cons (pg_name (i := 3) sc_short.nd rfl (by first | exact .inl rfl | exact .inr rfl)) pgs_nil))) (tg_tup rfl (tgs_cons (by first | decide | (unfold keeps; decide)) (tgs_cons (by first | decide | (unfold keeps; decide)) tgs_nil))))
  (s_one (s_ret (r_lock (e_op op_sub (k_f2 pr_sub) (r_name (pv 3)) ow_v (e_cb (cr_sum rfl) (k_f1 prl_sum) (by rfl) T.z_sum boot_sum (pa_cons (r_lock (r_lock (r_lc rfl sc_short.nd (i_zip (by rfl) T.z_zip (a_of (pa_cons (r_name (pv 2)) (pa_cons (r_name (pv 1)) pa_nil)) (aw_cons ow_v (aw_cons ow_v aw_nil)))) (own := [("number", 4), ("one", 5)]) (blk_of rfl rfl rfl rfl rfl) (tg_tup rfl (tgs_cons (by decide) (tgs_cons (by decide) tgs_nil))) (fun _ _ _ _ _ => (pg_tup rfl (pgs_cons (pg_name (i := 4) sc_short.nd rfl (by first | exact .inl rfl | exact .inr rfl)) (pgs_cons (pg_name (i := 5) sc_short.nd rfl (by first | exact .inl rfl | exact .inr rfl)) pgs_nil)))) (fun _ _ _ _ _ => pts_one (t_lift (t_cmp (o_eq hr.units) pr_eq (r_name (pv 5)) r_int (nomark _)))) (fun _ _ _ _ _ => (r_cap (r_name (pv 4))))))) pa_nil) (aw_cons ow_l aw_nil)) ow_l))))))

theorem sc_tails_of : FnScope ["numbers", "tails", "number"] ["numbers"] (defScope st_tails_of) := ⟨rfl, rfl, rfl, by decide +kernel, rfl, by decide +kernel, by decide +kernel⟩
theorem ok_tails_of (T : Tb K mg) : FnOk P w K mg base (L2.CX P w) 1 T.f_tails_of T.d_tails_of ["numbers"] (spF (KL K) mg F_tails_of) :=
  fn_ok (ks := [true]) T.o_tails_of.fn sc_tails_of rfl (fun cdv A outer s1 H E hr =>
  (s_cons (s_set (i := 1) (by first | decide | (unfold keeps; decide)) sc_tails_of.nd rfl (by first | exact .inl rfl | exact .inr rfl) (r_lst (r_cons (r_cap r_int) r_nil)))
  (s_cons (s_for (passes_of rfl) rfl (i_m (r_lock (e_rev (r_name (pv 0)) ow_v))) (pg_name (i := 2) sc_tails_of.nd rfl (by first | exact .inl rfl | exact .inr rfl)) (tg_name (by first | decide | (unfold keeps; decide))) (s_one (s_expr (r_app (pv 1) (r_cap (r_op o_add pr_add (r_ix (r_name (pv 1)) (r_un un_neg pr_neg r_int) (fun _ _ => rfl)) (r_name (pv 2))))))))
  (s_one (s_ret (r_lock (e_rev (r_name (pv 1)) ow_v)))))))

theorem sc_longer_ones : FnScope ["begun", "number", "tail", "found", "left", "taken"] ["begun", "number", "tail"] (defScope st_longer_ones) := ⟨rfl, rfl, rfl, by decide +kernel, rfl, by decide +kernel, by decide +kernel⟩
theorem ok_longer_ones (T : Tb K mg) : FnOk P w K mg base (L2.CX P w) 1 T.f_longer_ones T.d_longer_ones ["begun", "number", "tail"] (spF (KL K) mg F_longer_ones) :=
  fn_ok (ks := [true, true, true]) T.o_longer_ones.fn sc_longer_ones rfl (fun cdv A outer s1 H E hr =>
  (s_cons (s_set (i := 3) (by first | decide | (unfold keeps; decide)) sc_longer_ones.nd rfl (by first | exact .inl rfl | exact .inr rfl) (r_lst r_nil))
  (s_cons (s_for (passes_of rfl) rfl (i_v (r_name (pv 0))) (pg_tup rfl (pgs_cons (pg_name (i := 4) sc_longer_ones.nd rfl (by first | exact .inl rfl | exact .inr rfl)) (pgs_cons (pg_name (i := 5) sc_longer_ones.nd rfl (by first | exact .inl rfl | exact .inr rfl)) pgs_nil))) (tg_tup rfl (tgs_cons (by first | decide | (unfold keeps; decide)) (tgs_cons (by first | decide | (unfold keeps; decide)) tgs_nil))) (s_cons (s_ifP (t_chain op_le op_le pr_le pr_le r_int (r_op op_sub pr_sub (r_name (pv 4)) (r_name (pv 1))) (r_name (pv 2))) (s_one (s_expr (r_app (pv 3) (r_tup (r_cons (r_cap (r_op op_sub pr_sub (r_name (pv 4)) (r_name (pv 1)))) (r_cons (r_lock (e_op o_addB k_add (r_name (pv 5)) ow_v (r_lst (r_cons (r_cap r_int) r_nil)) ow_l)) r_nil)))))) s_nil)
  (s_one (s_ifP (t_cmp op_le pr_le (r_name (pv 4)) (r_name (pv 2)) (nomark _)) (s_one (s_expr (r_app (pv 3) (r_tup (r_cons (r_cap (r_name (pv 4))) (r_cons (r_lock (e_op o_addB k_add (r_name (pv 5)) ow_v (r_lst (r_cons (r_cap r_int) r_nil)) ow_l)) r_nil)))))) s_nil))))
  (s_one (s_ret (r_mv (pv 3)))))))

theorem sc__law_cell : FnScope ["_law_script", "_law_k", "_law_cell_here"] ["_law_script", "_law_k"] (defScope st__law_cell) := ⟨rfl, rfl, rfl, by decide +kernel, rfl, by decide +kernel, by decide +kernel⟩
theorem ok__law_cell (T : Tb K mg) : FnOk P w K mg base (L2.CX P w) 1 T.f__law_cell T.d__law_cell ["_law_script", "_law_k"] (spF (KL K) mg F__law_cell) :=
  fn_ok (ks := [true, true]) T.o__law_cell.fn sc__law_cell rfl (fun cdv A outer s1 H E hr =>
  (s_cons (s_setV (i := 2) (by first | decide | (unfold keeps; decide)) sc__law_cell.nd rfl (by first | exact .inl rfl | exact .inr rfl) r_int)
  (s_cons (s_ifP (t_cmp op_gt pr_gt (p_cb call_len prl_len (by rfl) T.z_len boot_len (r_name (pv 0))) r_int (nomark _)) (s_one (s_setV (i := 2) (by first | decide | (unfold keeps; decide)) sc__law_cell.nd rfl (by first | exact .inl rfl | exact .inr rfl) (r_ix (r_name (pv 0)) (r_op op_mod pr_mod (r_name (pv 1)) (p_cb call_len prl_len (by rfl) T.z_len boot_len (r_name (pv 0)))) (fun _ _ => rfl)))) s_nil)
  (s_one (s_ret (r_cap (r_op op_fdivW pr_div (r_op op_mod pr_mod (r_op o_add pr_add (r_op o_add pr_add (r_op o_add pr_add (r_op o_mul pr_mul (r_name (pv 2)) r_int) (r_op o_mul pr_mul (r_op o_mul pr_mul (r_name (pv 1)) (r_name (pv 1))) r_int)) (r_op o_mul pr_mul r_int (r_name (pv 1)))) r_int) r_int) r_int)))))))

theorem sc__law_due : FnScope ["_law_rows", "_law_many", "_law_going", "_law_row", "_law_longer", "_law_choice", "_law_met", "_law_group"] ["_law_rows", "_law_many"] (defScope st__law_due) := ⟨rfl, rfl, rfl, by decide +kernel, rfl, by decide +kernel, by decide +kernel⟩
theorem ok__law_due (T : Tb K mg) : FnOk P w K mg base (L2.CX P w) 1 T.f__law_due T.d__law_due ["_law_rows", "_law_many"] (spF (KL K) mg F__law_due) :=
  fn_ok (ks := [true, true]) T.o__law_due.fn sc__law_due rfl (fun cdv A outer s1 H E hr =>
  (s_cons (s_set (i := 2) (by first | decide | (unfold keeps; decide)) sc__law_due.nd rfl (by first | exact .inl rfl | exact .inr rfl) (r_lst (r_cons (r_tup (r_cons (r_lst r_nil) (r_cons (r_lst r_nil) r_nil))) r_nil)))
  (s_cons (s_for (passes_of rfl) rfl (i_v (r_name (pv 0))) (pg_name (i := 3) sc__law_due.nd rfl (by first | exact .inl rfl | exact .inr rfl)) (tg_name (by first | decide | (unfold keeps; decide))) (s_cons (s_set (i := 4) (by first | decide | (unfold keeps; decide)) sc__law_due.nd rfl (by first | exact .inl rfl | exact .inr rfl) (r_lst r_nil))
  (s_cons (s_for (passes_of rfl) rfl (i_m (r_cap (r_name (pv 2)))) (pg_tup rfl (pgs_cons (pg_name (i := 5) sc__law_due.nd rfl (by first | exact .inl rfl | exact .inr rfl)) (pgs_cons (pg_name (i := 6) sc__law_due.nd rfl (by first | exact .inl rfl | exact .inr rfl)) pgs_nil))) (tg_tup rfl (tgs_cons (by first | decide | (unfold keeps; decide)) (tgs_cons (by first | decide | (unfold keeps; decide)) tgs_nil))) (s_cons (s_expr (r_app (pv 4) (r_tup (r_cons (r_lock (e_op o_addB k_add (r_name (pv 5)) ow_v (r_lst (r_cons (r_cap r_int) r_nil)) ow_l)) (r_cons (r_cap (r_name (pv 6))) r_nil)))))
  (s_one (s_ifS (e_cmpT (o_eq hr.units) (k_f2 pr_eq) (e_cb call_len (k_f1 prl_len) (by rfl) T.z_len boot_len (pa_cons (r_lock (r_lc rfl sc__law_due.nd (i_v (r_name (pv 3))) (own := [("_law_group", 7)]) (blk_of rfl rfl rfl rfl rfl) (tg_name (by decide)) (fun _ _ _ _ _ => (pg_name (i := 7) sc__law_due.nd rfl (by first | exact .inl rfl | exact .inr rfl))) (fun _ _ _ _ _ => pts_one (t_lift (t_cmp (o_in (Room.u65 hr)) pr_in (r_name (pv 7)) (r_name (pv 6)) (by with_unfolding_all rfl)))) (fun _ _ _ _ _ => (r_cap (r_name (pv 7)))))) pa_nil) (aw_cons ow_l aw_nil)) ow_l r_int ow_v (nomark _)) (s_one (s_expr (r_app (pv 4) (r_tup (r_cons (r_lock (e_op o_addB k_add (r_name (pv 5)) ow_v (r_lst (r_cons (r_cap r_int) r_nil)) ow_l)) (r_cons (r_lock (r_lock (e_op o_addB k_add (r_name (pv 6)) ow_v (r_name (pv 3)) ow_v))) r_nil)))))) s_nil))))
  (s_one (s_set (i := 2) (by first | decide | (unfold keeps; decide)) sc__law_due.nd rfl (by first | exact .inl rfl | exact .inr rfl) (r_mv (pv 4)))))))
  (s_one (s_ret (e_cb (cr_sortedD (Room.u65 hr)) (k_l1 prn_sortD) (by rfl) T.z_sorted boot_sorted (pa_cons (r_lc rfl sc__law_due.nd (i_m (r_cap (r_name (pv 2)))) (own := [("_law_choice", 5), ("_law_met", 6)]) (blk_of rfl rfl rfl rfl rfl) (tg_tup rfl (tgs_cons (by decide) (tgs_cons (by decide) tgs_nil))) (fun _ _ _ _ _ => (pg_tup rfl (pgs_cons (pg_name (i := 5) sc__law_due.nd rfl (by first | exact .inl rfl | exact .inr rfl)) (pgs_cons (pg_name (i := 6) sc__law_due.nd rfl (by first | exact .inl rfl | exact .inr rfl)) pgs_nil)))) (fun _ _ _ _ _ => pts_one (t_lift (t_cmp (o_eq hr.units) pr_eq (p_cb call_len prl_len (by rfl) T.z_len boot_len (r_name (pv 6))) (r_name (pv 1)) (nomark _)))) (fun _ _ _ _ _ => (r_cap (r_name (pv 5))))) pa_nil) (aw_cons ow_l aw_nil)))))))

theorem sc_choices : FnScope ["total", "numbers", "due", "order", "falling", "tails", "begun", "k", "number", "found", "left", "taken", "choice", "at", "one"] ["total"] (defScope st_choices) := ⟨rfl, rfl, rfl, by decide +kernel, rfl, by decide +kernel, by decide +kernel⟩
theorem ok_choices (T : Tb K mg) (B : LamX.TabB base mg T.lc T.lP) : FnOk P w K mg base (L2.CX P w) 2 T.f_choices T.d_choices ["total"] (spF (KL K) mg F_choices) :=
  fn_okC (ks := [true]) T.o_choices.fn sc_choices rfl T.lcode (fun A outer s1 H E hr =>
  (s_cons (s_unpV (r_name (pv 0)) (pg_tup rfl (pgs_cons (pg_name (i := 1) sc_choices.nd rfl (by first | exact .inl rfl | exact .inr rfl)) (pgs_cons (pg_name (i := 2) sc_choices.nd rfl (by first | exact .inl rfl | exact .inr rfl)) pgs_nil))) (tg_tup rfl (tgs_cons (by first | decide | (unfold keeps; decide)) (tgs_cons (by first | decide | (unfold keeps; decide)) tgs_nil))))
  (s_cons (s_set (i := 3) (by first | decide | (unfold keeps; decide)) sc_choices.nd rfl (by first | exact .inl rfl | exact .inr rfl) (e_srtKey hr rfl (by rfl) T.z_sorted (by rfl) T.z_range (by rfl) T.z_len rfl (.inr (.inl rfl)) B rfl (by rfl) T.ltb rfl rfl rfl rfl (by decide) rfl rfl (by rfl) rfl (fun _ _ _ _ _ _ => rfl) (by decide) (by decide) (by decide)))
  (s_cons (s_setLcG (i := 4) (by first | decide | (unfold keeps; decide)) rfl sc_choices.nd rfl rfl (sw_true rfl rfl rfl (by decide +kernel)) (i_m (r_cap (r_name (pv 3)))) (own := [("at", 13)]) (blk_of rfl rfl rfl rfl rfl) (tg_name (by decide)) (fun _ _ _ z => (fun _ _ _ z => z) _ _ _ (shE_weak _ _ _ z)) (fun _ _ _ _ _ => (pg_name (i := 13) sc_choices.nd rfl (by first | exact .inl rfl | exact .inr rfl))) (fun _ _ _ _ _ => pts_yes rfl) (fun _ _ _ _ _ => (r_cap (r_ix (r_name (pv 1)) (r_name (pv 13)) (fun _ _ => rfl)))))
  (s_cons (s_set (i := 5) (by first | decide | (unfold keeps; decide)) sc_choices.nd rfl (by first | exact .inl rfl | exact .inr rfl) (r_lock (r_call (FnOk.up (ok_tails_of T) (by decide)) hr (by rfl) T.o_tails_of.g T.o_tails_of.fn.kp T.o_tails_of.b (takes_of rfl rfl rfl rfl) (a_of (pa_cons (r_name (pv 4)) pa_nil) (aw_cons ow_v aw_nil)))))
  (s_cons (s_set (i := 6) (by first | decide | (unfold keeps; decide)) sc_choices.nd rfl (by first | exact .inl rfl | exact .inr rfl) (r_lst (r_cons (r_tup (r_cons (r_cap (r_name (pv 2))) (r_cons (r_lst r_nil) r_nil))) r_nil)))
  (s_cons (s_ifP (t_cmp op_gt pr_gt (r_name (pv 2)) (r_ix (r_name (pv 5)) r_int (fun _ _ => rfl)) (nomark _)) (s_one (s_set (i := 6) (by first | decide | (unfold keeps; decide)) sc_choices.nd rfl (by first | exact .inl rfl | exact .inr rfl) (r_lst r_nil))) s_nil)
  (s_cons (s_for (passes_of rfl) rfl (i_enum (by rfl) T.z_enumerate (a_of (pa_cons (r_name (pv 4)) pa_nil) (aw_cons ow_v aw_nil))) (pg_tup rfl (pgs_cons (pg_name (i := 7) sc_choices.nd rfl (by first | exact .inl rfl | exact .inr rfl)) (pgs_cons (pg_name (i := 8) sc_choices.nd rfl (by first | exact .inl rfl | exact .inr rfl)) pgs_nil))) (tg_tup rfl (tgs_cons (by first | decide | (unfold keeps; decide)) (tgs_cons (by first | decide | (unfold keeps; decide)) tgs_nil))) (s_one (s_set (i := 6) (by first | decide | (unfold keeps; decide)) sc_choices.nd rfl (by first | exact .inl rfl | exact .inr rfl) (r_lock (r_lock (r_lock (r_call (FnOk.up (ok_longer_ones T) (by decide)) hr (by rfl) T.o_longer_ones.g T.o_longer_ones.fn.kp T.o_longer_ones.b (takes_of rfl rfl rfl rfl) (a_of (pa_cons (r_name (pv 6)) (pa_cons (r_name (pv 8)) (pa_cons (r_ix (r_name (pv 5)) (r_op o_add pr_add (r_name (pv 7)) r_int) (fun _ _ => rfl)) pa_nil))) (aw_cons ow_v (aw_cons ow_v (aw_cons ow_v aw_nil)))))))))))
  (s_cons (s_set (i := 9) (by first | decide | (unfold keeps; decide)) sc_choices.nd rfl (by first | exact .inl rfl | exact .inr rfl) (r_lst r_nil))
  (s_cons (s_for (passes_of rfl) rfl (i_m (r_cap (r_name (pv 6)))) (pg_tup rfl (pgs_cons (pg_name (i := 10) sc_choices.nd rfl (by first | exact .inl rfl | exact .inr rfl)) (pgs_cons (pg_name (i := 11) sc_choices.nd rfl (by first | exact .inl rfl | exact .inr rfl)) pgs_nil))) (tg_tup rfl (tgs_cons (by first | decide | (unfold keeps; decide)) (tgs_cons (by first | decide | (unfold keeps; decide)) tgs_nil))) (s_cons (s_setLcG (i := 12) (by first | decide | (unfold keeps; decide)) rfl sc_choices.nd rfl rfl (sw_true rfl rfl rfl (by decide +kernel)) (i_v (r_name (pv 1))) (own := [("number", 8)]) (blk_of rfl rfl rfl rfl rfl) (tg_name (by decide)) (fun _ _ _ z => (fun _ _ _ z => z) _ _ _ (lockE_weak _ _ _ z)) (fun _ _ _ _ _ => (pg_name (i := 8) sc_choices.nd rfl (by first | exact .inl rfl | exact .inr rfl))) (fun _ _ _ _ _ => pts_yes rfl) (fun _ _ _ _ _ => (r_cap r_int)))
  (s_cons (s_for (passes_of rfl) rfl (i_zip (by rfl) T.z_zip (a_of (pa_cons (r_name (pv 3)) (pa_cons (r_name (pv 11)) pa_nil)) (aw_cons ow_v (aw_cons ow_v aw_nil)))) (pg_tup rfl (pgs_cons (pg_name (i := 13) sc_choices.nd rfl (by first | exact .inl rfl | exact .inr rfl)) (pgs_cons (pg_name (i := 14) sc_choices.nd rfl (by first | exact .inl rfl | exact .inr rfl)) pgs_nil))) (tg_tup rfl (tgs_cons (by first | decide | (unfold keeps; decide)) (tgs_cons (by first | decide | (unfold keeps; decide)) tgs_nil))) (s_one (s_setI True.intro (r_cap (r_name (pv 14))) (e_pthN (pv 12)) (r_name (pv 13)))))
  (s_one (s_expr (r_app (pv 9) (r_mv (pv 12))))))))
  (s_one (s_ret (e_srtMO (Room.u65 hr) (by rfl) T.z_sorted (pv 9))))))))))))))

theorem sc__law_take : FnScope ["_law_pen", "_law_most"] ["_law_pen", "_law_most"] (defScope st__law_take) := ⟨rfl, rfl, rfl, by decide +kernel, rfl, by decide +kernel, by decide +kernel⟩
theorem ok__law_take (T : Tb K mg) : FnOk P w K mg base (L2.CX P w) 2 T.f__law_take T.d__law_take ["_law_pen", "_law_most"] (spF (KL K) mg F__law_take) :=
  fn_ok (ks := [true, true]) T.o__law_take.fn sc__law_take rfl (fun cdv A outer s1 H E hr =>
  (s_cons (s_setI True.intro (r_cap (r_op o_add pr_add (r_ix (r_name (pv 0)) r_int (fun _ _ => rfl)) r_int)) (e_pthN (pv 0)) r_int)
  (s_one (s_ret (r_lock (e_op op_mod (k_f2 pr_mod) (r_lock (r_call (FnOk.up (ok__law_cell T) (by decide)) hr (by rfl) T.o__law_cell.g T.o__law_cell.fn.kp T.o__law_cell.b (takes_of rfl rfl rfl rfl) (a_of (pa_cons (r_ix (r_name (pv 0)) r_int (fun _ _ => rfl)) (pa_cons (r_ix (r_name (pv 0)) r_int (fun _ _ => rfl)) pa_nil)) (aw_cons ow_v (aw_cons ow_v aw_nil))))) ow_l (r_name (pv 1)) ow_v))))))

theorem sc__law_groups : FnScope ["_law_pen", "_law_groups_here", "_law_product", "_law_k", "_law_size"] ["_law_pen"] (defScope st__law_groups) := ⟨rfl, rfl, rfl, by decide +kernel, rfl, by decide +kernel, by decide +kernel⟩
theorem ok__law_groups (T : Tb K mg) : FnOk P w K mg base (L2.CX P w) 3 T.f__law_groups T.d__law_groups ["_law_pen"] (spF (KL K) mg F__law_groups) :=
  fn_ok (ks := [true]) T.o__law_groups.fn sc__law_groups rfl (fun cdv A outer s1 H E hr =>
  (s_cons (s_set (i := 1) (by first | decide | (unfold keeps; decide)) sc__law_groups.nd rfl (by first | exact .inl rfl | exact .inr rfl) (r_lst r_nil))
  (s_cons (s_setV (i := 2) (by first | decide | (unfold keeps; decide)) sc__law_groups.nd rfl (by first | exact .inl rfl | exact .inr rfl) r_int)
  (s_cons (s_for (passes_of rfl) rfl (i_rng1 (by rfl) T.z_range (a_of (pa_cons (e_op o_add (k_f2 pr_add) r_int ow_v (r_call (FnOk.up (ok__law_take T) (by decide)) hr (by rfl) T.o__law_take.g T.o__law_take.fn.kp T.o__law_take.b (takes_of rfl rfl rfl rfl) (a_of (pa_cons (pv 0) (pa_cons r_int pa_nil)) (aw_cons ow_mv (aw_cons ow_v aw_nil)))) ow_l) pa_nil) (aw_cons ow_l aw_nil))) (pg_name (i := 3) sc__law_groups.nd rfl (by first | exact .inl rfl | exact .inr rfl)) (tg_name (by first | decide | (unfold keeps; decide))) (s_cons (s_set (i := 4) (by first | decide | (unfold keeps; decide)) sc__law_groups.nd rfl (by first | exact .inl rfl | exact .inr rfl) (e_cb (call_min2 rfl) (k_f2l prl_min) (by rfl) T.z_min boot_min (pa_cons (e_op o_add (k_f2 pr_add) r_int ow_v (r_call (FnOk.up (ok__law_take T) (by decide)) hr (by rfl) T.o__law_take.g T.o__law_take.fn.kp T.o__law_take.b (takes_of rfl rfl rfl rfl) (a_of (pa_cons (pv 0) (pa_cons r_int pa_nil)) (aw_cons ow_mv (aw_cons ow_v aw_nil)))) ow_l) (pa_cons (r_op op_fdivW pr_div r_int (r_name (pv 2))) pa_nil)) (aw_cons ow_l (aw_cons ow_v aw_nil))))
  (s_cons (s_expr (r_app (pv 1) (r_cap (p_cb2 (call_max2 rfl) prl_max (by rfl) T.z_max boot_max r_int (r_name (pv 4))))))
  (s_one (s_setV (i := 2) (by first | decide | (unfold keeps; decide)) sc__law_groups.nd rfl (by first | exact .inl rfl | exact .inr rfl) (r_op o_mul pr_mul (r_name (pv 2)) (p_cb2 (call_max2 rfl) prl_max (by rfl) T.z_max boot_max r_int (r_name (pv 4)))))))))
  (s_one (s_ret (r_mv (pv 1))))))))

theorem sc__law_numbers : FnScope ["_law_pen", "_law_groups_here", "_law_rows", "_law_group", "_law_k", "_law_row"] ["_law_pen", "_law_groups_here"] (defScope st__law_numbers) := ⟨rfl, rfl, rfl, by decide +kernel, rfl, by decide +kernel, by decide +kernel⟩
theorem ok__law_numbers (T : Tb K mg) : FnOk P w K mg base (L2.CX P w) 3 T.f__law_numbers T.d__law_numbers ["_law_pen", "_law_groups_here"] (spF (KL K) mg F__law_numbers) :=
  fn_ok (ks := [true, true]) T.o__law_numbers.fn sc__law_numbers rfl (fun cdv A outer s1 H E hr =>
  (s_cons (s_set (i := 2) (by first | decide | (unfold keeps; decide)) sc__law_numbers.nd rfl (by first | exact .inl rfl | exact .inr rfl) (r_lst r_nil))
  (s_cons (s_for (passes_of rfl) rfl (i_rng1 (by rfl) T.z_range (a_of (pa_cons (p_cb call_len prl_len (by rfl) T.z_len boot_len (r_name (pv 1))) pa_nil) (aw_cons ow_v aw_nil))) (pg_name (i := 3) sc__law_numbers.nd rfl (by first | exact .inl rfl | exact .inr rfl)) (tg_name (by first | decide | (unfold keeps; decide))) (s_one (s_for (passes_of rfl) rfl (i_rng1 (by rfl) T.z_range (a_of (pa_cons (r_ix (r_name (pv 1)) (r_name (pv 3)) (fun _ _ => rfl)) pa_nil) (aw_cons ow_v aw_nil))) (pg_name (i := 4) sc__law_numbers.nd rfl (by first | exact .inl rfl | exact .inr rfl)) (tg_name (by first | decide | (unfold keeps; decide))) (s_cons (s_set (i := 5) (by first | decide | (unfold keeps; decide)) sc__law_numbers.nd rfl (by first | exact .inl rfl | exact .inr rfl) (r_lst (r_cons (r_cap (r_name (pv 3))) r_nil)))
  (s_cons (s_ifS (PW.pt (t_andM (t_lift (t_cmp op_gt pr_gt (r_name (pv 3)) r_int (nomark _))) (t_andM1 (e_cmpT (o_eq hr.units) (k_f2 pr_eq) (r_call (FnOk.up (ok__law_take T) (by decide)) hr (by rfl) T.o__law_take.g T.o__law_take.fn.kp T.o__law_take.b (takes_of rfl rfl rfl rfl) (a_of (pa_cons (pv 0) (pa_cons r_int pa_nil)) (aw_cons ow_mv (aw_cons ow_v aw_nil)))) ow_l r_int ow_v (nomark _))))) (s_one (s_expr (r_app (pv 5) (r_call (FnOk.up (ok__law_take T) (by decide)) hr (by rfl) T.o__law_take.g T.o__law_take.fn.kp T.o__law_take.b (takes_of rfl rfl rfl rfl) (a_of (pa_cons (pv 0) (pa_cons (r_name (pv 3)) pa_nil)) (aw_cons ow_mv (aw_cons ow_v aw_nil))))))) s_nil)
  (s_one (s_expr (e_ins (pv 2) (r_call (FnOk.up (ok__law_take T) (by decide)) hr (by rfl) T.o__law_take.g T.o__law_take.fn.kp T.o__law_take.b (takes_of rfl rfl rfl rfl) (a_of (pa_cons (pv 0) (pa_cons (r_op o_add pr_add (p_cb call_len prl_len (by rfl) T.z_len boot_len (r_name (pv 2))) r_int) pa_nil)) (aw_cons ow_mv (aw_cons ow_v aw_nil)))) (r_mv (pv 5))))))))))
  (s_one (s_ret (r_mv (pv 2)))))))

theorem sc_law : FnScope ["_law_script", "_law_pen", "_law_groups_here", "_law_rows", "_law_powers", "_law_group", "_law_numbers_here", "_law_total", "_law_due_here", "_law_handed", "_law_row", "_law_choice"] ["_law_script"] (defScope st_law) := ⟨rfl, rfl, rfl, by decide +kernel, rfl, by decide +kernel, by decide +kernel⟩
theorem ok_law (T : Tb K mg) (B : LamX.TabB base mg T.lc T.lP) : FnOk P w K mg base (L2.CX P w) 4 T.f_law T.d_law ["_law_script"] (spF (KL K) mg F_law) :=
  fn_ok (ks := [true]) T.o_law.fn sc_law rfl (fun cdv A outer s1 H E hr =>
  (s_cons (s_set (i := 1) (by first | decide | (unfold keeps; decide)) sc_law.nd rfl (by first | exact .inl rfl | exact .inr rfl) (r_lst (r_cons (r_cap (r_name (pv 0))) (r_cons (r_cap r_int) r_nil))))
  (s_cons (s_set (i := 2) (by first | decide | (unfold keeps; decide)) sc_law.nd rfl (by first | exact .inl rfl | exact .inr rfl) (r_call (FnOk.up (ok__law_groups T) (by decide)) hr (by rfl) T.o__law_groups.g T.o__law_groups.fn.kp T.o__law_groups.b (takes_of rfl rfl rfl rfl) (a_of (pa_cons (pv 1) pa_nil) (aw_cons ow_mv aw_nil))))
  (s_cons (s_set (i := 3) (by first | decide | (unfold keeps; decide)) sc_law.nd rfl (by first | exact .inl rfl | exact .inr rfl) (r_lock (r_call (FnOk.up (ok__law_numbers T) (by decide)) hr (by rfl) T.o__law_numbers.g T.o__law_numbers.fn.kp T.o__law_numbers.b (takes_of rfl rfl rfl rfl) (a_of (pa_cons (pv 1) (pa_cons (r_name (pv 2)) pa_nil)) (aw_cons ow_mv (aw_cons ow_v aw_nil))))))
  (s_cons (s_set (i := 4) (by first | decide | (unfold keeps; decide)) sc_law.nd rfl (by first | exact .inl rfl | exact .inr rfl) (r_lst (r_cons (r_cap r_int) r_nil)))
  (s_cons (s_for (passes_of rfl) rfl (i_m (r_lock (e_slA (r_name (pv 2)) ow_v r_int ow_v))) (pg_name (i := 5) sc_law.nd rfl (by first | exact .inl rfl | exact .inr rfl)) (tg_name (by first | decide | (unfold keeps; decide))) (s_one (s_expr (r_app (pv 4) (r_cap (r_op o_mul pr_mul (r_ix (r_name (pv 4)) (r_un un_neg pr_neg r_int) (fun _ _ => rfl)) r_int))))))
  (s_cons (s_setLcG (i := 6) (by first | decide | (unfold keeps; decide)) rfl sc_law.nd rfl rfl (sw_true rfl rfl rfl (by decide +kernel)) (i_m (r_cap (r_name (pv 3)))) (own := [("_law_row", 10)]) (blk_of rfl rfl rfl rfl rfl) (tg_name (by decide)) (fun _ _ _ z => z) (fun _ _ _ _ _ => (pg_name (i := 10) sc_law.nd rfl (by first | exact .inl rfl | exact .inr rfl))) (fun _ _ _ _ _ => pts_yes rfl) (fun _ _ _ _ _ => (e_cb (cr_sum rfl) (k_f1 prl_sum) (by rfl) T.z_sum boot_sum (pa_cons (r_lock (r_lc rfl sc_law.nd (i_v (r_name (pv 10))) (own := [("_law_group", 5)]) (blk_of rfl rfl rfl rfl rfl) (tg_name (by decide)) (fun _ _ _ _ _ => (pg_name (i := 5) sc_law.nd rfl (by first | exact .inl rfl | exact .inr rfl))) (fun _ _ _ _ _ => pts_yes rfl) (fun _ _ _ _ _ => (r_cap (r_ix (r_name (pv 4)) (r_name (pv 5)) (fun _ _ => rfl)))))) pa_nil) (aw_cons ow_l aw_nil))))
  (s_cons (s_set (i := 7) (by first | decide | (unfold keeps; decide)) sc_law.nd rfl (by first | exact .inl rfl | exact .inr rfl) (r_tup (r_cons (r_cap (r_name (pv 6))) (r_cons (r_cap (p_cb (cr_sum rfl) prl_sum (by rfl) T.z_sum boot_sum (r_name (pv 4)))) r_nil))))
  (s_cons (s_set (i := 8) (by first | decide | (unfold keeps; decide)) sc_law.nd rfl (by first | exact .inl rfl | exact .inr rfl) (r_lock (r_call (FnOk.up (ok__law_due T) (by decide)) hr (by rfl) T.o__law_due.g T.o__law_due.fn.kp T.o__law_due.b (takes_of rfl rfl rfl rfl) (a_of (pa_cons (r_name (pv 3)) (pa_cons (p_cb call_len prl_len (by rfl) T.z_len boot_len (r_name (pv 2))) pa_nil)) (aw_cons ow_v (aw_cons ow_v aw_nil))))))
  (s_cons (s_set (i := 9) (by first | decide | (unfold keeps; decide)) sc_law.nd rfl (by first | exact .inl rfl | exact .inr rfl) (r_tup (r_cons (r_lock (e_ty call_list_of (k_l1 prn_list) (by rfl) T.z_list boot_list (pa_cons (r_name (pv 6)) pa_nil) (aw_cons ow_v aw_nil))) (r_cons (r_cap (r_ix (r_name (pv 7)) r_int (fun _ _ => rfl))) r_nil))))
  (s_cons (s_ifS (PW.pt (t_orM (t_lock (e_cmpT (o_ne hr.units) (k_f2 pr_ne) (r_lock (r_call (FnOk.up (ok_choices T B) (by decide)) hr (by rfl) T.o_choices.g T.o_choices.fn.kp T.o_choices.b (takes_of rfl rfl rfl rfl) (a_of (pa_cons (r_name (pv 9)) pa_nil) (aw_cons ow_v aw_nil)))) ow_l (r_name (pv 8)) ow_v (nomark _))) (t_orM (t_lift (t_cmp (o_ne hr.units) pr_ne (r_name (pv 9)) (r_name (pv 7)) (nomark _))) (t_orM1 (t_lock (e_cmpT (o_ne hr.units) (k_f2 pr_ne) (r_lock (r_call (FnOk.up (ok_choices T B) (by decide)) hr (by rfl) T.o_choices.g T.o_choices.fn.kp T.o_choices.b (takes_of rfl rfl rfl rfl) (a_of (pa_cons (r_name (pv 9)) pa_nil) (aw_cons ow_v aw_nil)))) ow_l (r_name (pv 8)) ow_v (nomark _))))))) (s_one (s_ret (r_cap r_bl))) s_nil)
  (s_one (s_ret (e_cb (cr_all rfl) (k_f1 prl_all) (by rfl) T.z_all boot_all (pa_cons (r_lc rfl sc_law.nd (i_m (r_cap (r_name (pv 8)))) (own := [("_law_choice", 11)]) (blk_of rfl rfl rfl rfl rfl) (tg_name (by decide)) (fun _ _ _ _ _ => (pg_name (i := 11) sc_law.nd rfl (by first | exact .inl rfl | exact .inr rfl))) (fun _ _ _ _ _ => pts_yes rfl) (fun _ _ _ _ _ => (e_cmp (o_eq hr.units) (k_f2 pr_eq) (r_lock (r_lock (r_call (FnOk.up (ok_short T) (by decide)) hr (by rfl) T.o_short.g T.o_short.fn.kp T.o_short.b takes0 (a_of (pa_cons (r_name (pv 7)) (pa_cons (r_name (pv 11)) pa_nil)) (aw_cons ow_v (aw_cons ow_v aw_nil)))))) ow_l r_int ow_v (nomark _)))) pa_nil) (aw_cons ow_l aw_nil)))))))))))))))

end
set_option maxHeartbeats 0 in
omit [Tbl] in
theorem all_mk {l : PySem.W.OpenLaw} {w : World} {K : PySem.W.Frag} {h : Heap} {mg : Str → Option Value} {fa f0 f1 f2 f3 f4 f5 f6 f7 f8 f9 : Addr} (hlaw : ∀ ns : List Int, ns.length ≤ 63 → ∃ m fs, F_law [(Md.sh, .lst (ns.map D.int))] = .ok (m, .bl true) fs) (X : K.In h) (G : h.Ns mainGlobals mg) (hfa : mg "law" = some (.ref fa))
    {od0 an0 : Option Addr} {sl0 : Array (Option Value)} {oc0 kV0 dc0 pm0 cd0 ct0 : Value} {od1 an1 : Option Addr} {sl1 : Array (Option Value)} {oc1 kV1 dc1 pm1 cd1 ct1 : Value} {od2 an2 : Option Addr} {sl2 : Array (Option Value)} {oc2 kV2 dc2 pm2 cd2 ct2 : Value} {od3 an3 : Option Addr} {sl3 : Array (Option Value)} {oc3 kV3 dc3 pm3 cd3 ct3 : Value} {od4 an4 : Option Addr} {sl4 : Array (Option Value)} {oc4 kV4 dc4 pm4 cd4 ct4 : Value} {od5 an5 : Option Addr} {sl5 : Array (Option Value)} {oc5 kV5 dc5 pm5 cd5 ct5 : Value} {od6 an6 : Option Addr} {sl6 : Array (Option Value)} {oc6 kV6 dc6 pm6 cd6 ct6 : Value} {od7 an7 : Option Addr} {sl7 : Array (Option Value)} {oc7 kV7 dc7 pm7 cd7 ct7 : Value} {od8 an8 : Option Addr} {sl8 : Array (Option Value)} {oc8 kV8 dc8 pm8 cd8 ct8 : Value} {od9 an9 : Option Addr} {sl9 : Array (Option Value)} {oc9 kV9 dc9 pm9 cd9 ct9 : Value}
    (a0 : PySem.W.nsIn K mainGlobals "short" = some (some (.ref f0))) (l0 : K.lookup f0 = some ⟨oc0, od0, .func (PySem.W.fnOf "short" "short" (defArgs st_short) (defBody st_short) (defScope st_short) .none kV0 dc0 pm0 an0 cd0 ct0), sl0⟩) (c0 : PySem.W.codeIn K cd0 "short" = true) (k0 : PySem.W.keepIn K (.ref f0) = true)
    (a1 : PySem.W.nsIn K mainGlobals "tails_of" = some (some (.ref f1))) (l1 : K.lookup f1 = some ⟨oc1, od1, .func (PySem.W.fnOf "tails_of" "tails_of" (defArgs st_tails_of) (defBody st_tails_of) (defScope st_tails_of) .none kV1 dc1 pm1 an1 cd1 ct1), sl1⟩) (c1 : PySem.W.codeIn K cd1 "tails_of" = true) (k1 : PySem.W.keepIn K (.ref f1) = true)
    (a2 : PySem.W.nsIn K mainGlobals "longer_ones" = some (some (.ref f2))) (l2 : K.lookup f2 = some ⟨oc2, od2, .func (PySem.W.fnOf "longer_ones" "longer_ones" (defArgs st_longer_ones) (defBody st_longer_ones) (defScope st_longer_ones) .none kV2 dc2 pm2 an2 cd2 ct2), sl2⟩) (c2 : PySem.W.codeIn K cd2 "longer_ones" = true) (k2 : PySem.W.keepIn K (.ref f2) = true)
    (a3 : PySem.W.nsIn K mainGlobals "_law_cell" = some (some (.ref f3))) (l3 : K.lookup f3 = some ⟨oc3, od3, .func (PySem.W.fnOf "_law_cell" "_law_cell" (defArgs st__law_cell) (defBody st__law_cell) (defScope st__law_cell) .none kV3 dc3 pm3 an3 cd3 ct3), sl3⟩) (c3 : PySem.W.codeIn K cd3 "_law_cell" = true) (k3 : PySem.W.keepIn K (.ref f3) = true)
    (a4 : PySem.W.nsIn K mainGlobals "_law_due" = some (some (.ref f4))) (l4 : K.lookup f4 = some ⟨oc4, od4, .func (PySem.W.fnOf "_law_due" "_law_due" (defArgs st__law_due) (defBody st__law_due) (defScope st__law_due) .none kV4 dc4 pm4 an4 cd4 ct4), sl4⟩) (c4 : PySem.W.codeIn K cd4 "_law_due" = true) (k4 : PySem.W.keepIn K (.ref f4) = true)
    (a5 : PySem.W.nsIn K mainGlobals "choices" = some (some (.ref f5))) (l5 : K.lookup f5 = some ⟨oc5, od5, .func (PySem.W.fnOf "choices" "choices" (defArgs st_choices) (defBody st_choices) (defScope st_choices) .none kV5 dc5 pm5 an5 cd5 ct5), sl5⟩) (c5 : PySem.W.codeIn K cd5 "choices" = true) (k5 : PySem.W.keepIn K (.ref f5) = true)
    (a6 : PySem.W.nsIn K mainGlobals "_law_take" = some (some (.ref f6))) (l6 : K.lookup f6 = some ⟨oc6, od6, .func (PySem.W.fnOf "_law_take" "_law_take" (defArgs st__law_take) (defBody st__law_take) (defScope st__law_take) .none kV6 dc6 pm6 an6 cd6 ct6), sl6⟩) (c6 : PySem.W.codeIn K cd6 "_law_take" = true) (k6 : PySem.W.keepIn K (.ref f6) = true)
    (a7 : PySem.W.nsIn K mainGlobals "_law_groups" = some (some (.ref f7))) (l7 : K.lookup f7 = some ⟨oc7, od7, .func (PySem.W.fnOf "_law_groups" "_law_groups" (defArgs st__law_groups) (defBody st__law_groups) (defScope st__law_groups) .none kV7 dc7 pm7 an7 cd7 ct7), sl7⟩) (c7 : PySem.W.codeIn K cd7 "_law_groups" = true) (k7 : PySem.W.keepIn K (.ref f7) = true)
    (a8 : PySem.W.nsIn K mainGlobals "_law_numbers" = some (some (.ref f8))) (l8 : K.lookup f8 = some ⟨oc8, od8, .func (PySem.W.fnOf "_law_numbers" "_law_numbers" (defArgs st__law_numbers) (defBody st__law_numbers) (defScope st__law_numbers) .none kV8 dc8 pm8 an8 cd8 ct8), sl8⟩) (c8 : PySem.W.codeIn K cd8 "_law_numbers" = true) (k8 : PySem.W.keepIn K (.ref f8) = true)
    (a9 : PySem.W.nsIn K mainGlobals "law" = some (some (.ref f9))) (l9 : K.lookup f9 = some ⟨oc9, od9, .func (PySem.W.fnOf "law" "law" (defArgs st_law) (defBody st_law) (defScope st_law) .none kV9 dc9 pm9 an9 cd9 ct9), sl9⟩) (c9 : PySem.W.codeIn K cd9 "law" = true) (k9 : PySem.W.keepIn K (.ref f9) = true)
    (zall : PySem.W.nsIn K mainGlobals "all" = some none)
    (zenumerate : PySem.W.nsIn K mainGlobals "enumerate" = some none)
    (zlen : PySem.W.nsIn K mainGlobals "len" = some none)
    (zlist : PySem.W.nsIn K mainGlobals "list" = some none)
    (zmax : PySem.W.nsIn K mainGlobals "max" = some none)
    (zmin : PySem.W.nsIn K mainGlobals "min" = some none)
    (zrange : PySem.W.nsIn K mainGlobals "range" = some none)
    (zsorted : PySem.W.nsIn K mainGlobals "sorted" = some none)
    (zsum : PySem.W.nsIn K mainGlobals "sum" = some none)
    (zzip : PySem.W.nsIn K mainGlobals "zip" = some none)
    {lcA lPA : Addr} (lcd : cd5 = .ref lcA) (ltab : h.get? lPA = some (PySem.W.tabObj #[])) (lkn : K.lookup lPA = none) (lhd : PySem.W.codeHdIn K lcA lPA = true)
    : LamX.LawAtS l w K (L2.CX l.prog w) 4 63 "_law_script" mg fa h := by
  have e := hfa.symm.trans (PySem.W.mg_of X G a9)
  cases e
  letI : Tbl := ⟨fun a => a = lPA⟩
  exact ⟨PySem.W.fnOf "law" "law" (defArgs st_law) (defBody st_law) (defScope st_law) .none kV9 dc9 pm9 an9 cd9 ct9, [(lcA, lPA)], spLaw K 63, fun p hp => by rw [List.mem_singleton.mp hp]; exact ltab, fun p hp => by rw [List.mem_singleton.mp hp]; exact lkn, fun p hp => by rw [List.mem_singleton.mp hp]; exact PySem.W.codeHd_of_K X lhd, fun s v => .of_eq rfl, fun H a ns hl _ hT hS => ⟨a, ns, rfl, hS, hl, fun P hP => by rw [show P = lPA from hP]; exact LamX.TabS.nil (hT (lcA, lPA) (List.mem_singleton.mpr rfl)), fun _ _ e => e⟩, fun base _ _ hB => FnOk.imp (ok_law (⟨_, _, ⟨fun_mk (st := st_short) l0 c0 k0, (fun_mk (st := st_short) l0 c0 k0).binds fun _ _ _ _ _ _ us hl => match us, hl with | [_, _], _ => rfl, PySem.W.mg_of X G a0⟩, _, _, ⟨fun_mk (st := st_tails_of) l1 c1 k1, (fun_mk (st := st_tails_of) l1 c1 k1).binds fun _ _ _ _ _ _ us hl => match us, hl with | [_], _ => rfl, PySem.W.mg_of X G a1⟩, _, _, ⟨fun_mk (st := st_longer_ones) l2 c2 k2, (fun_mk (st := st_longer_ones) l2 c2 k2).binds fun _ _ _ _ _ _ us hl => match us, hl with | [_, _, _], _ => rfl, PySem.W.mg_of X G a2⟩, _, _, ⟨fun_mk (st := st__law_cell) l3 c3 k3, (fun_mk (st := st__law_cell) l3 c3 k3).binds fun _ _ _ _ _ _ us hl => match us, hl with | [_, _], _ => rfl, PySem.W.mg_of X G a3⟩, _, _, ⟨fun_mk (st := st__law_due) l4 c4 k4, (fun_mk (st := st__law_due) l4 c4 k4).binds fun _ _ _ _ _ _ us hl => match us, hl with | [_, _], _ => rfl, PySem.W.mg_of X G a4⟩, _, _, ⟨fun_mk (st := st_choices) l5 c5 k5, (fun_mk (st := st_choices) l5 c5 k5).binds fun _ _ _ _ _ _ us hl => match us, hl with | [_], _ => rfl, PySem.W.mg_of X G a5⟩, _, _, ⟨fun_mk (st := st__law_take) l6 c6 k6, (fun_mk (st := st__law_take) l6 c6 k6).binds fun _ _ _ _ _ _ us hl => match us, hl with | [_, _], _ => rfl, PySem.W.mg_of X G a6⟩, _, _, ⟨fun_mk (st := st__law_groups) l7 c7 k7, (fun_mk (st := st__law_groups) l7 c7 k7).binds fun _ _ _ _ _ _ us hl => match us, hl with | [_], _ => rfl, PySem.W.mg_of X G a7⟩, _, _, ⟨fun_mk (st := st__law_numbers) l8 c8 k8, (fun_mk (st := st__law_numbers) l8 c8 k8).binds fun _ _ _ _ _ _ us hl => match us, hl with | [_, _], _ => rfl, PySem.W.mg_of X G a8⟩, _, _, ⟨fun_mk (st := st_law) l9 c9 k9, (fun_mk (st := st_law) l9 c9 k9).binds fun _ _ _ _ _ _ us hl => match us, hl with | [_], _ => rfl, PySem.W.mg_of X G a9⟩, PySem.W.mg_none_of X G zall, PySem.W.mg_none_of X G zenumerate, PySem.W.mg_none_of X G zlen, PySem.W.mg_none_of X G zlist, PySem.W.mg_none_of X G zmax, PySem.W.mg_none_of X G zmin, PySem.W.mg_none_of X G zrange, PySem.W.mg_none_of X G zsorted, PySem.W.mg_none_of X G zsum, PySem.W.mg_none_of X G zzip, lcA, lPA, lcd, rfl⟩ : Tb K mg) (hB (lcA, lPA) (List.mem_singleton.mpr rfl))) fun vs H Q E z => law_sp hlaw vs H Q E z⟩

end
end T6

namespace T6
open PySem PySem.Spec PyProof.Rows L2
variable [Tbl]
/-! ### helps of all laws -/
theorem take_get {α : Type} {xs : List α} {i : Nat} {x : α} (h : xs[i]? = some x) : xs.take (i + 1) = xs.take i ++ [x] := by rw [List.take_add_one, h]; rfl
theorem drop_get {α : Type} {xs : List α} {i : Nat} {x : α} (h : xs[i]? = some x) : xs.drop i = x :: xs.drop (i + 1) := by
  obtain ⟨hi, rfl⟩ := List.getElem?_eq_some_iff.mp h
  exact List.drop_eq_getElem_cons hi
theorem tup_inj {a b : List Int} : D.tup (a.map D.int) = D.tup (b.map D.int) ↔ a = b := by rw [D.tup.injEq, int_inj]
theorem gEq_tints {a b : List Int} : gEq (.tup (a.map D.int)) (.tup (b.map D.int)) = some (.bl (decide (a = b))) := by
  rw [gEq_pl (by simp [pln]) (by simp [pln]) (by simp [dpt]) (by simp [dpt])]
  congr 2
  exact decide_eq_decide.mpr tup_inj
theorem in_ints {n : Int} {ns : List Int} : gIn (.int n) (.lst (ns.map D.int)) = some (.bl (decide (n ∈ ns))) := by
  rw [gIn_pl rfl plns_ints (by simp [dpt]) (by simp)]
  simp
/-- a slice of a tuple of ints -/
def cutI (w : List Int) (lo hi : Option Int) : List Int := (w.drop (HT.sIx w.length 0 lo)).take (HT.sIx w.length w.length hi - HT.sIx w.length 0 lo)
theorem slt_ok {w : List Int} {lo hi : Option Int} {s : Bool} {ev : Ev} : kSlG lo hi s (.tup (w.map D.int)) ev = .ok (.dp, .tup ((cutI w lo hi).map D.int)) ev := by
  have e : cutD (w.map D.int) lo hi = (cutI w lo hi).map D.int := by
    unfold cutD cutI
    rw [List.length_map, ← List.map_drop, ← List.map_take]
  unfold kSlG
  dsimp only
  split
  · rename_i h
    rw [List.length_map] at h
    have : cutI w lo hi = w := by
      unfold cutI
      rw [h.1, h.2]
      simp
    rw [this, x_kid, if_pos (by simp)]
  · rw [e, x_newT, if_pos flats_int]
theorem cutI_b {w : List Int} {n : Nat} : cutI w none (some (n : Int)) = w.take n := by
  unfold cutI
  rw [HT.sIx_none, HT.sIx_nat]
  simp [List.take_eq_take_iff]
theorem cutI_a {w : List Int} {n : Nat} : cutI w (some (n : Int)) none = w.drop n := by
  unfold cutI
  rw [HT.sIx_none, HT.sIx_nat]
  by_cases h : n ≤ w.length
  · rw [Nat.min_eq_left h, List.take_of_length_le (by simp)]
  · rw [Nat.min_eq_right (by omega), List.drop_length, List.drop_eq_nil_of_le (by omega)]
    simp
theorem cutI_c {w : List Int} {n m : Nat} (h : n ≤ w.length) : cutI w (some (n : Int)) (some ((n + m : Nat) : Int)) = (w.drop n).take m := by
  unfold cutI
  rw [HT.sIx_nat, HT.sIx_nat, Nat.min_eq_left h]
  rw [List.take_eq_take_iff, List.length_drop]
  omega

/-- a slice of a list of ints -/
theorem sll_ok {w : List Int} {lo hi : Option Int} {s : Bool} {ev : Ev} : kSlG lo hi s (.lst (w.map D.int)) ev = newL s ((cutI w lo hi).map D.int) ev := by
  have e : cutD (w.map D.int) lo hi = (cutI w lo hi).map D.int := by
    unfold cutD cutI
    rw [List.length_map, ← List.map_drop, ← List.map_take]
  unfold kSlG
  dsimp only
  rw [e]
def cellN (ns : List Int) (k : Int) : Int := ((if 0 < ns.length then ns.getD (k % ns.length).toNat 0 else 7) * 69621 + k * k * 30011 + 11 * k + 5) % 2147483647 / 3
theorem cell_ok (ns : List Int) (k : Int) (hk : 0 ≤ k) (hk2 : k < 2 ^ 32) : F__law_cell [(.lk, lstI ns), (.lk, .int k)] = .ok (.dp, .int (cellN ns k)) [some (.lk, lstI ns), some (.lk, .int k)] := by
  have m1 : mulOk k k = true := mulOk_l (by omega)
  by_cases h : 0 < ns.length
  · have h2 : (0 : Int) < ns.length := by omega
    have h3 := Int.emod_nonneg k (show (ns.length : Int) ≠ 0 by omega)
    have h4 := Int.emod_lt_of_pos k h2
    have h5 : (k % ns.length).toNat < ns.length := by omega
    simp [F__law_cell, b__law_cell, s_law_cell_1, s_law_cell_2, s_law_cell_3, s_law_cell_4, bodyF, h, h2, h3, h4, h5, m1, cellN]
  · simp [F__law_cell, b__law_cell, s_law_cell_1, s_law_cell_2, s_law_cell_3, s_law_cell_4, bodyF, h, m1, cellN]
theorem cell_pos (ns : List Int) (k : Int) : 0 ≤ cellN ns k := by
  unfold cellN
  have := Int.emod_nonneg (((if 0 < ns.length then ns.getD (k % ns.length).toNat 0 else 7) * 69621 + k * k * 30011 + 11 * k + 5)) (show (2147483647 : Int) ≠ 0 by decide)
  omega
abbrev penD (ns : List Int) (k : Int) : MD := (.rt, .lst [lstI ns, .int k])
@[simp] theorem penD_def {ns : List Int} {k : Int} : penD ns k = (.rt, .lst [lstI ns, .int k]) := rfl
def drawn (ns : List Int) (k most : Int) : Int := cellN ns (k + 1) % most
theorem drawn_pos {ns : List Int} {k most : Int} (h : 0 < most) : 0 ≤ drawn ns k most := Int.emod_nonneg _ (by omega)
theorem drawn_lt {ns : List Int} {k most : Int} (h : 0 < most) : drawn ns k most < most := Int.emod_lt_of_pos _ h
theorem pen_take (ns : List Int) (k most : Int) (hk : 0 ≤ k) (hk2 : k + 1 < 2 ^ 32) (hm : 0 < most) : F__law_take [penD ns k, (.lk, .int most)] = .ok (.dp, .int (drawn ns k most)) [some (penD ns (k + 1)), some (.lk, .int most)] := by
  have h1 := cell_ok ns (k + 1) (by omega) hk2
  simp [F__law_take, b__law_take, s_law_take_1, s_law_take_2, bodyF, mutG, setIG, h1, hm, penD, drawn]
theorem at3 {P : Int → Prop} {a b c i : Int} (h0 : 0 ≤ i) (h1 : i < 3) (ha : P a) (hb : P b) (hc : P c) : ∃ m : Int, P m ∧ atI [D.int a, D.int b, D.int c] i = some (.int m) := by
  obtain rfl | rfl | rfl : i = 0 ∨ i = 1 ∨ i = 2 := by omega
  · exact ⟨a, ha, rfl⟩
  · exact ⟨b, hb, rfl⟩
  · exact ⟨c, hc, rfl⟩
def InR (M : Nat) (ks : List Int) : Prop := ∀ x ∈ ks, 0 ≤ x ∧ x < M
/-! ### numbers in another order -/
def at0 (st : List Int) (i : Int) : Int := st.getD i.toNat 0
theorem nd_len {α : Type} [DecidableEq α] : ∀ {l ds : List α}, l.Nodup → (∀ x ∈ l, x ∈ ds) → l.length ≤ ds.length
  | [], _, _, _ => Nat.zero_le _
  | x :: l, ds, h, m => by
    have hx := m x List.mem_cons_self
    have h := List.nodup_cons.mp h
    have := nd_len (l := l) (ds := ds.erase x) h.2 fun y hy => (List.mem_erase_of_ne fun e => h.1 (by rw [← e]; exact hy)).mpr (m y (List.mem_cons_of_mem _ hy))
    have h2 := List.length_erase_of_mem hx
    have h3 := List.length_pos_of_mem hx
    simp only [List.length_cons]
    omega
theorem perm_nd {α : Type} [DecidableEq α] : ∀ {a b : List α}, a.Nodup → b.Nodup → (∀ x, x ∈ a ↔ x ∈ b) → a.Perm b
  | [], b, _, _, h => by
    have : b = [] := List.eq_nil_iff_forall_not_mem.mpr fun x hx => nomatch (h x).mpr hx
    rw [this]
  | x :: a, b, ha, hb, h => by
    have hx := (h x).mp List.mem_cons_self
    have ha := List.nodup_cons.mp ha
    refine (List.Perm.cons x (perm_nd ha.2 (hb.erase x) fun y => ?_)).trans (List.perm_cons_erase hx).symm
    rw [List.Nodup.mem_erase_iff hb]
    have := h y
    rw [List.mem_cons] at this
    constructor
    · intro hy
      exact ⟨fun e => ha.1 (by rw [← e]; exact hy), this.mp (.inr hy)⟩
    · rintro ⟨h1, h2⟩
      exact (this.mpr h2).resolve_left h1
def isPerm (n : Nat) (o : List Int) : Prop := o.length = n ∧ o.Nodup ∧ InR n o
def rngZ (n : Nat) : List Int := (List.range n).map fun i : Nat => (i : Int)
theorem mem_rngZ {n : Nat} {x : Int} : x ∈ rngZ n ↔ 0 ≤ x ∧ x < n := by
  unfold rngZ
  rw [List.mem_map]
  constructor
  · rintro ⟨i, hi, rfl⟩
    have := List.mem_range.mp hi
    omega
  · intro h
    exact ⟨x.toNat, List.mem_range.mpr (by omega), by omega⟩
theorem perm_sur {n : Nat} {o : List Int} (h : isPerm n o) {x : Int} (hx : 0 ≤ x ∧ x < n) : ∃ i : Nat, i < n ∧ at0 o (i : Int) = x := by
  have hm : x ∈ o := by
    refine Classical.byContradiction fun c => ?_
    have := nd_len (l := x :: o) (ds := rngZ n) (List.nodup_cons.mpr ⟨c, h.2.1⟩) fun y hy => by
      rcases List.mem_cons.mp hy with rfl | hy
      · exact mem_rngZ.mpr hx
      · exact mem_rngZ.mpr (h.2.2 y hy)
    have e : (rngZ n).length = n := by simp [rngZ]
    have e2 := h.1
    simp only [List.length_cons] at this
    omega
  obtain ⟨i, hi, e⟩ := List.getElem_of_mem hm
  refine ⟨i, by rw [← h.1]; exact hi, ?_⟩
  show o.getD i 0 = x
  rw [List.getD_eq_getElem?_getD, List.getElem?_eq_getElem hi]
  exact e
theorem perm_at {n : Nat} {o : List Int} (h : isPerm n o) {i : Nat} (hi : i < n) : 0 ≤ at0 o (i : Int) ∧ at0 o (i : Int) < n := by
  have hl : i < o.length := by rw [h.1]; exact hi
  have e : at0 o (i : Int) = o[i] := by
    show o.getD i 0 = _
    rw [List.getD_eq_getElem?_getD, List.getElem?_eq_getElem hl]
    rfl
  rw [e]
  exact h.2.2 _ (List.getElem_mem hl)
theorem perm_inj {n : Nat} {o : List Int} (h : isPerm n o) {i j : Nat} (hi : i < n) (hj : j < n) (e : at0 o (i : Int) = at0 o (j : Int)) : i = j := by
  have hl : i < o.length := by rw [h.1]; exact hi
  have hl2 : j < o.length := by rw [h.1]; exact hj
  have e1 : ∀ k (hk : k < o.length), at0 o (k : Int) = o[k] := fun k hk => by
    show o.getD k 0 = _
    rw [List.getD_eq_getElem?_getD, List.getElem?_eq_getElem hk]
    rfl
  rw [e1 i hl, e1 j hl2] at e
  exact (List.getElem_inj h.2.1).mp e
theorem perm_injZ {n : Nat} {o : List Int} (h : isPerm n o) {x y : Int} (hx : 0 ≤ x ∧ x < n) (hy : 0 ≤ y ∧ y < n) (e : at0 o x = at0 o y) : x = y := by
  have := perm_inj h (i := x.toNat) (j := y.toNat) (by omega) (by omega) (by rw [show ((x.toNat : Nat) : Int) = x by omega, show ((y.toNat : Nat) : Int) = y by omega]; exact e)
  omega
theorem perm_atZ {n : Nat} {o : List Int} (h : isPerm n o) {x : Int} (hx : 0 ≤ x ∧ x < n) : 0 ≤ at0 o x ∧ at0 o x < n := by
  have := perm_at h (i := x.toNat) (by omega)
  rwa [show ((x.toNat : Nat) : Int) = x by omega] at this
theorem ins_perm {i : Nat} {o : List Int} (h : isPerm i o) (p : Nat) : isPerm (i + 1) (o.take p ++ [(i : Int)] ++ o.drop p) := by
  have hp : (o.take p ++ [(i : Int)] ++ o.drop p).Perm ((i : Int) :: o) := by
    rw [List.append_assoc]
    refine List.perm_middle.trans (List.Perm.cons _ ?_)
    show (o.take p ++ o.drop p).Perm o
    rw [List.take_append_drop]
  obtain ⟨h1, h2, h3⟩ := h
  refine ⟨by rw [hp.length_eq, List.length_cons, h1], hp.nodup_iff.mpr (List.nodup_cons.mpr ⟨fun z => ?_, h2⟩), fun x hx => ?_⟩
  · have := h3 _ z; omega
  · rcases List.mem_cons.mp (hp.mem_iff.mp hx) with rfl | hx
    · omega
    · have := h3 x hx; omega

/-! ### settings, walked -/
theorem toPy_row (r : List Int) : toPy (lstI r) = .list (r.map .int) := by
  show PyData.list (toPys (r.map D.int)) = _
  rw [toPys_map, List.map_map]
  rfl
def srtI (xs : List (List Int)) : List (List Int) := xs.mergeSort fun p q => decide (p ≤ q)
theorem sortD_rows {xs : List (List Int)} : gSortD (.lst (xs.map lstI)) = some ((srtI xs).map lstI) := by
  have e1 : toPys (xs.map lstI) = xs.map fun r => PyData.list (r.map .int) := by
    rw [toPys_map, List.map_map]
    exact List.map_congr_left fun r _ => toPy_row r
  have c1 : PyData.canLayAll0 (toPys (xs.map lstI)) = true := (plns_lay (plns_map (fun r => by simp [lstI, pln]) xs)).1
  have c2 : PySem.W.AllAlike (toPys (xs.map lstI)) := by
    rw [e1]
    exact PySem.W.AllAlike.of fun b b' => by rw [PySem.W.alike]; exact PySem.W.alike_ints b b'
  have c3 : PySem.W.Sortable (toPys (xs.map lstI)) := by
    rw [e1]
    exact PySem.W.Sortable.others fun b => ⟨by simp, by simp⟩
  have c4 : ∀ d ∈ toPys (xs.map lstI), d.depth ≤ 60 := by
    rw [e1]
    intro d hd
    obtain ⟨r, _, rfl⟩ := List.mem_map.mp hd
    simp [PyData.depth, PySem.W.depth_ints]
  unfold gSortD
  dsimp only
  rw [if_pos ⟨c1, c2, c3, c4⟩]
  have e2 : ∀ p q : List Int, decide (p ≤ q) = leD (lstI p) (lstI q) := fun p q => by
    have := congrFun (congrFun (PySem.W.dataLe_rows (fun x : List Int => x)) p) q
    rw [← this]
    unfold leD PySem.W.dataLe
    simp only [PySem.W.sortLe]
    rw [toPy_row, toPy_row]
  have e3 : (xs.mergeSort (fun p q => decide (p ≤ q))).map lstI = (xs.map lstI).mergeSort leD := List.map_mergeSort fun p _ q _ => e2 p q
  rw [← e3]
  rfl
theorem srtI_perm (xs : List (List Int)) : (srtI xs).Perm xs := List.mergeSort_perm _ _
theorem srtI_pw (xs : List (List Int)) : (srtI xs).Pairwise (· ≤ ·) := by
  have := List.pairwise_mergeSort (le := fun p q : List Int => decide (p ≤ q)) (fun a b c h1 h2 => by simp only [decide_eq_true_eq] at *; exact List.le_trans h1 h2) (fun a b => by
    rcases List.le_total a b with h | h <;> simp [h]) xs
  exact this.imp fun h => by simpa using h
/-- what is sorted and the same but for the order is the same -/
theorem pw_eq {a b : List (List Int)} (ha : a.Pairwise (· ≤ ·)) (hb : b.Pairwise (· ≤ ·)) (h : a.Perm b) : a = b :=
  List.Perm.eq_of_pairwise (fun x y _ _ h1 h2 => List.le_antisymm h1 h2) ha hb h
theorem srtI_eq {xs ys : List (List Int)} (h : xs.Perm ys) : srtI xs = srtI ys := pw_eq (srtI_pw _) (srtI_pw _) ((srtI_perm xs).trans (h.trans (srtI_perm ys).symm))
def allV : Nat → List (List Int)
  | 0 => [[]]
  | n + 1 => (allV n).map (0 :: ·) ++ (allV n).map (1 :: ·)
theorem mem_allV {v : List Int} : ∀ {n : Nat}, v ∈ allV n ↔ v.length = n ∧ ∀ x ∈ v, x = 0 ∨ x = 1 := by
  induction v with
  | nil => intro n; cases n with
    | zero => simp [allV]
    | succ n => simp [allV]
  | cons a v ih => intro n; cases n with
    | zero => simp [allV]
    | succ n =>
      simp only [allV, List.mem_append, List.mem_map, List.cons.injEq, List.length_cons, List.mem_cons]
      constructor
      · rintro (⟨u, hu, rfl, rfl⟩ | ⟨u, hu, rfl, rfl⟩)
        · obtain ⟨h1, h2⟩ := ih.mp hu
          exact ⟨by omega, fun x hx => hx.elim .inl (h2 x)⟩
        · obtain ⟨h1, h2⟩ := ih.mp hu
          exact ⟨by omega, fun x hx => hx.elim .inr (h2 x)⟩
      · rintro ⟨h1, h2⟩
        have hv := ih.mpr ⟨show v.length = n by omega, fun x hx => h2 x (.inr hx)⟩
        rcases h2 a (.inl rfl) with rfl | rfl
        · exact .inl ⟨v, hv, rfl, rfl⟩
        · exact .inr ⟨v, hv, rfl, rfl⟩
theorem allV_len : ∀ n : Nat, (allV n).length = 2 ^ n
  | 0 => rfl
  | n + 1 => by simp only [allV, List.length_append, List.length_map, allV_len n, Nat.pow_succ]; omega
theorem allV_nd : ∀ n : Nat, (allV n).Nodup
  | 0 => by simp [allV]
  | n + 1 => by
    have ih := allV_nd n
    simp only [allV]
    refine List.nodup_append.mpr ⟨?_, ?_, fun a ha b hb e => ?_⟩
    · rw [List.Nodup, List.pairwise_map]
      exact ih.imp fun h e => h (List.cons.inj e).2
    · rw [List.Nodup, List.pairwise_map]
      exact ih.imp fun h e => h (List.cons.inj e).2
    · obtain ⟨u, _, rfl⟩ := List.mem_map.mp ha
      obtain ⟨u', _, rfl⟩ := List.mem_map.mp hb
      simp at e
theorem allV_srt : ∀ n : Nat, (allV n).Pairwise (· ≤ ·)
  | 0 => by simp [allV]
  | n + 1 => by
    have ih := allV_srt n
    simp only [allV]
    refine List.pairwise_append.mpr ⟨?_, ?_, fun a ha b hb => ?_⟩
    · exact List.pairwise_map.mpr (ih.imp fun h => List.cons_le_cons_iff.mpr (.inr ⟨rfl, h⟩))
    · exact List.pairwise_map.mpr (ih.imp fun h => List.cons_le_cons_iff.mpr (.inr ⟨rfl, h⟩))
    · obtain ⟨u, _, rfl⟩ := List.mem_map.mp ha
      obtain ⟨u', _, rfl⟩ := List.mem_map.mp hb
      exact List.cons_le_cons_iff.mpr (.inl (by omega))
theorem ins_ok {i n : Nat} {r : MD} {ev : Ev} (h : n < 1000000) : insK2 i (n : Int) r ev = (match mutG (insU n) i [] r ev with
  | some ev3 => .ok (.dp, .non) ev3
  | none => .no) := by
  have h2 : (n : Int) < 1000000 := by omega
  have := x_insK2 (i := i) (n := (n : Int)) (r := r) (ev2 := ev) (Int.natCast_nonneg n) h2
  rw [Int.toNat_natCast] at this
  exact this
/-! ### choices, plainly -/
def dotI (v ns : List Int) : Int := (List.zipWith (· * ·) v ns).sum
def z01 (v : List Int) : Prop := ∀ x ∈ v, x = 0 ∨ x = 1
theorem dot_snoc {a b : List Int} {x y : Int} (h : a.length = b.length) : dotI (a ++ [x]) (b ++ [y]) = dotI a b + x * y := by
  unfold dotI
  rw [List.zipWith_append h]
  simp
def longF (bg : List (Int × List Int)) (number tail : Int) : List (Int × List Int) := bg.flatMap fun p =>
  (if 0 ≤ p.1 - number ∧ p.1 - number ≤ tail then [(p.1 - number, p.2 ++ [1])] else []) ++ (if p.1 ≤ tail then [(p.1, p.2 ++ [0])] else [])
def bgF (fs : List Int) (due : Int) : Nat → List (Int × List Int)
  | 0 => if due > fs.sum then [] else [(due, [])]
  | k + 1 => longF (bgF fs due k) (fs.getD k 0) ((fs.drop (k + 1)).sum)
theorem long_len (bg : List (Int × List Int)) (number tail : Int) : (longF bg number tail).length ≤ 2 * bg.length := by
  unfold longF
  induction bg with
  | nil => simp
  | cons p bg ih =>
    rw [List.flatMap_cons, List.length_append, List.length_cons]
    have : ((if 0 ≤ p.1 - number ∧ p.1 - number ≤ tail then [(p.1 - number, p.2 ++ [1])] else []) ++ (if p.1 ≤ tail then [(p.1, p.2 ++ [0])] else [])).length ≤ 2 := by
      split <;> split <;> simp
    omega
theorem bg_len (fs : List Int) (due : Int) : ∀ k, (bgF fs due k).length ≤ 2 ^ k
  | 0 => by unfold bgF; split <;> simp
  | k + 1 => by
    have h1 := bg_len fs due k
    have h2 := long_len (bgF fs due k) (fs.getD k 0) ((fs.drop (k + 1)).sum)
    rw [Nat.pow_succ]
    show (longF _ _ _).length ≤ _
    omega
theorem sum_nn {xs : List Int} (h : ∀ x ∈ xs, 0 ≤ x) : 0 ≤ xs.sum := by
  induction xs with
  | nil => simp
  | cons x xs ih =>
    have h1 := h x List.mem_cons_self
    have h2 := ih fun y hy => h y (List.mem_cons_of_mem _ hy)
    rw [List.sum_cons]
    omega
theorem mem_bg {fs : List Int} {due : Int} (hf : ∀ x ∈ fs, 0 ≤ x) (hd : 0 ≤ due) : ∀ (k : Nat), k ≤ fs.length → ∀ p : Int × List Int, p ∈ bgF fs due k ↔ p.2.length = k ∧ z01 p.2 ∧ p.1 = due - dotI p.2 (fs.take k) ∧ 0 ≤ p.1 ∧ p.1 ≤ (fs.drop k).sum
  | 0, _, p => by
    obtain ⟨l, t⟩ := p
    unfold bgF
    rw [List.drop_zero]
    constructor
    · intro h
      split at h
      · cases h
      · rename_i c
        cases List.mem_singleton.mp h
        exact ⟨rfl, fun x hx => (nomatch hx), by simp [dotI], hd, by dsimp only; omega⟩
    · rintro ⟨h1, _, h3, h4, h5⟩
      dsimp only at *
      obtain rfl := List.length_eq_zero_iff.mp h1
      have h3 : l = due := by simpa [dotI] using h3
      subst h3
      rw [if_neg (by omega)]
      exact List.mem_singleton.mpr rfl
  | k + 1, hk, p => by
    have ih := mem_bg hf hd k (by omega)
    have hg : fs[k]? = some (fs.getD k 0) := by rw [List.getElem?_eq_getElem (by omega), List.getD_eq_getElem?_getD, List.getElem?_eq_getElem (by omega)]; rfl
    have ht : fs.take (k + 1) = fs.take k ++ [fs.getD k 0] := take_get hg
    have hdr : (fs.drop k).sum = fs.getD k 0 + (fs.drop (k + 1)).sum := by rw [drop_get hg, List.sum_cons]
    have hn : 0 ≤ fs.getD k 0 := hf _ (List.mem_of_getElem? hg)
    show p ∈ longF _ _ _ ↔ _
    unfold longF
    rw [List.mem_flatMap, ht]
    constructor
    · rintro ⟨q, hq, h⟩
      obtain ⟨a1, a2, a3, a4, a5⟩ := (ih q).mp hq
      have hl : q.2.length = (fs.take k).length := by rw [a1, List.length_take]; omega
      rcases List.mem_append.mp h with h | h
      · split at h
        · rename_i c
          cases List.mem_singleton.mp h
          refine ⟨by simp [a1], fun x hx => ?_, ?_, c.1, c.2⟩
          · rcases List.mem_append.mp hx with hx | hx
            · exact a2 x hx
            · exact .inr (List.mem_singleton.mp hx)
          · dsimp only
            rw [dot_snoc hl]
            omega
        · cases h
      · split at h
        · rename_i c
          cases List.mem_singleton.mp h
          refine ⟨by simp [a1], fun x hx => ?_, ?_, a4, c⟩
          · rcases List.mem_append.mp hx with hx | hx
            · exact a2 x hx
            · exact .inl (List.mem_singleton.mp hx)
          · dsimp only
            rw [dot_snoc hl]
            omega
        · cases h
    · rintro ⟨a1, a2, a3, a4, a5⟩
      obtain ⟨l, t⟩ := p
      dsimp only at *
      rcases List.eq_nil_or_concat t with rfl | ⟨u, b, rfl⟩
      · simp at a1
      · rw [List.concat_eq_append] at *
        have lu : u.length = k := by simpa using a1
        rw [dot_snoc (by rw [lu, List.length_take]; omega)] at a3
        have zu : z01 u := fun x hx => a2 x (List.mem_append_left _ hx)
        rcases a2 b (by simp) with rfl | rfl
        · refine ⟨(l, u), (ih _).mpr ⟨lu, zu, by dsimp only; omega, a4, by dsimp only; omega⟩, List.mem_append_right _ ?_⟩
          dsimp only
          rw [if_pos a5]
          exact List.mem_singleton.mpr rfl
        · refine ⟨(l + fs.getD k 0, u), (ih _).mpr ⟨lu, zu, by dsimp only; omega, by dsimp only; omega, by dsimp only; omega⟩, List.mem_append_left _ ?_⟩
          dsimp only
          have e : l + fs.getD k 0 - fs.getD k 0 = l := by omega
          rw [e, if_pos ⟨a4, a5⟩]
          exact List.mem_singleton.mpr rfl
theorem bg_nd (fs : List Int) (due : Int) : ∀ k, ((bgF fs due k).map (·.2)).Nodup
  | 0 => by unfold bgF; split <;> simp
  | k + 1 => by
    have ih := bg_nd fs due k
    rw [List.Nodup, List.pairwise_map] at ih ⊢
    show (longF _ _ _).Pairwise _
    unfold longF
    rw [List.pairwise_flatMap]
    refine ⟨fun p _ => ?_, ih.imp fun {p q} h x hx y hy e => ?_⟩
    · split <;> split <;> simp
    · have hx2 : ∃ b, x.2 = p.2 ++ [b] := by
        rcases List.mem_append.mp hx with z | z
        · split at z
          · rw [List.mem_singleton.mp z]; exact ⟨_, rfl⟩
          · cases z
        · split at z
          · rw [List.mem_singleton.mp z]; exact ⟨_, rfl⟩
          · cases z
      have hy2 : ∃ b, y.2 = q.2 ++ [b] := by
        rcases List.mem_append.mp hy with z | z
        · split at z
          · rw [List.mem_singleton.mp z]; exact ⟨_, rfl⟩
          · cases z
        · split at z
          · rw [List.mem_singleton.mp z]; exact ⟨_, rfl⟩
          · cases z
      obtain ⟨b, e1⟩ := hx2
      obtain ⟨c, e2⟩ := hy2
      rw [e1, e2] at e
      exact h (List.append_inj' e rfl).1
/-! ### by the order, and back -/
def gath (o v : List Int) : List Int := o.map fun x => v.getD x.toNat 0
def setF (v : List Int) : List (Int × Int) → List Int
  | [] => v
  | q :: r => setF (v.set q.1.toNat q.2) r
def scat (o t : List Int) : List Int := setF (List.replicate o.length 0) (o.zip t)
theorem setF_len : ∀ (r : List (Int × Int)) (v : List Int), (setF v r).length = v.length
  | [], v => rfl
  | q :: r, v => by rw [setF, setF_len r, List.length_set]
theorem setF_get : ∀ (o t v : List Int), o.Nodup → (∀ x ∈ o, 0 ≤ x ∧ x < v.length) → o.length = t.length → ∀ j : Nat, j < v.length → (setF v (o.zip t)).getD j 0 = if (j : Int) ∈ o then t.getD (o.idxOf (j : Int)) 0 else v.getD j 0
  | [], t, v, _, _, _, j, hj => by simp [setF]
  | x :: o, [], v, _, _, hl, j, hj => by simp at hl
  | x :: o, y :: t, v, hn, hr, hl, j, hj => by
    rw [List.nodup_cons] at hn
    obtain ⟨x0, x1⟩ := hr x List.mem_cons_self
    rw [List.zip_cons_cons, setF, setF_get o t _ hn.2 (fun z hz => by rw [List.length_set]; exact hr z (List.mem_cons_of_mem _ hz)) (by simpa using hl) j (by rw [List.length_set]; exact hj)]
    by_cases c : (j : Int) = x
    · subst c
      rw [if_neg hn.1, if_pos List.mem_cons_self, List.idxOf_cons_self]
      rw [Int.toNat_natCast, List.getD_eq_getElem?_getD, List.getElem?_set_self hj]
      rfl
    · have ne : ¬ x.toNat = j := by omega
      by_cases m : (j : Int) ∈ o
      · have e : (x :: o).idxOf (j : Int) = o.idxOf (j : Int) + 1 := by
          have h : (x == (j : Int)) = false := by simp; omega
          rw [List.idxOf_cons, h]
          rfl
        rw [if_pos m, if_pos (List.mem_cons_of_mem _ m), e, List.getD_cons_succ]
      · rw [if_neg m, if_neg (fun z => (List.mem_cons.mp z).elim c m)]
        rw [List.getD_eq_getElem?_getD, List.getElem?_set_ne ne, List.getD_eq_getElem?_getD]
theorem pmem {n t : Nat} {o : List Int} (h : isPerm n o) (ht : t < n) : (t : Int) ∈ o := by
  obtain ⟨i, hi, e⟩ := perm_sur h (x := (t : Int)) (by omega)
  unfold at0 at e
  rw [Int.toNat_natCast, List.getD_eq_getElem?_getD, List.getElem?_eq_getElem (by rw [h.1]; exact hi)] at e
  rw [← e]
  exact List.getElem_mem _
theorem scat_get {n : Nat} {o t : List Int} (h : isPerm n o) (ht : t.length = n) {j : Nat} (hj : j < n) : (scat o t).getD j 0 = t.getD (o.idxOf (j : Int)) 0 := by
  unfold scat
  rw [setF_get o t _ h.2.1 (fun x hx => by rw [List.length_replicate, h.1]; exact h.2.2 x hx) (by rw [h.1, ht]) j (by rw [List.length_replicate, h.1]; exact hj), if_pos (pmem h hj)]
theorem scat_len {o t : List Int} : (scat o t).length = o.length := by unfold scat; rw [setF_len, List.length_replicate]
theorem ext_getD {a b : List Int} (hl : a.length = b.length) (h : ∀ j, j < a.length → a.getD j 0 = b.getD j 0) : a = b := by
  refine List.ext_getElem hl fun j h1 h2 => ?_
  have := h j h1
  rw [List.getD_eq_getElem?_getD, List.getD_eq_getElem?_getD, List.getElem?_eq_getElem h1, List.getElem?_eq_getElem h2] at this
  exact this
theorem gath_len {o v : List Int} : (gath o v).length = o.length := List.length_map _
theorem gath_get {o v : List Int} {j : Nat} (hj : j < o.length) : (gath o v).getD j 0 = v.getD (o.getD j 0).toNat 0 := by
  unfold gath
  rw [List.getD_eq_getElem?_getD, List.getElem?_map, List.getD_eq_getElem?_getD (l := o), List.getElem?_eq_getElem hj]
  rfl
theorem gath_scat {n : Nat} {o t : List Int} (h : isPerm n o) (ht : t.length = n) : gath o (scat o t) = t := by
  refine ext_getD (by rw [gath_len, h.1, ht]) fun j hj => ?_
  rw [gath_len] at hj
  have hj' : j < n := by rw [← h.1]; exact hj
  obtain ⟨a, b⟩ := perm_at h hj'
  have e : o.getD j 0 = at0 o (j : Int) := by unfold at0; rw [Int.toNat_natCast]
  have hlt : (at0 o (j : Int)).toNat < n := by omega
  rw [gath_get hj, e, scat_get h ht hlt]
  have hx : ((at0 o (j : Int)).toNat : Int) = o[j] := by
    have : at0 o (j : Int) = o[j] := by unfold at0; rw [Int.toNat_natCast, List.getD_eq_getElem?_getD, List.getElem?_eq_getElem hj]; rfl
    rw [← this]; omega
  rw [hx, h.2.1.idxOf_getElem j hj]
theorem scat_gath {n : Nat} {o v : List Int} (h : isPerm n o) (hv : v.length = n) : scat o (gath o v) = v := by
  refine ext_getD (by rw [scat_len, h.1, hv]) fun j hj => ?_
  rw [scat_len, h.1] at hj
  have hm := pmem h hj
  have hi := List.idxOf_lt_length_of_mem hm
  rw [scat_get h (by rw [gath_len, h.1]) hj, gath_get hi]
  congr 1
  rw [List.getD_eq_getElem?_getD, List.getElem?_eq_getElem hi]
  show (o[o.idxOf (j : Int)]).toNat = j
  rw [List.getElem_idxOf hi]
  rfl
theorem perm_sum {a b : List Int} (h : a.Perm b) : a.sum = b.sum := by
  induction h with
  | nil => rfl
  | cons x _ ih => rw [List.sum_cons, List.sum_cons, ih]
  | swap x y l => simp only [List.sum_cons]; omega
  | trans _ _ h1 h2 => exact h1.trans h2
theorem perm_rng {n : Nat} {o : List Int} (h : isPerm n o) : o.Perm (rngZ n) := perm_nd h.2.1 (by
  unfold rngZ
  rw [List.Nodup, List.pairwise_map]
  exact List.pairwise_lt_range.imp fun h e => by omega) fun x => by
    rw [mem_rngZ]
    exact ⟨h.2.2 x, fun hx => by have := pmem h (t := x.toNat) (by omega); rwa [Int.toNat_of_nonneg hx.1] at this⟩
theorem dot_rng {v ns : List Int} {n : Nat} (hv : v.length = n) (hn : ns.length = n) : dotI v ns = ((rngZ n).map fun x => v.getD x.toNat 0 * ns.getD x.toNat 0).sum := by
  unfold dotI rngZ
  congr 1
  rw [List.map_map]
  refine List.ext_getElem (by simp [hv, hn]) fun j h1 h2 => ?_
  have hj : j < n := by simpa using h2
  simp [hv, hn, hj]
theorem dot_gath {n : Nat} {o v ns : List Int} (h : isPerm n o) (hv : v.length = n) (hn : ns.length = n) : dotI (gath o v) (gath o ns) = dotI v ns := by
  rw [dot_rng hv hn, ← perm_sum ((perm_rng h).map _)]
  unfold dotI gath
  rw [List.zipWith_map, List.zipWith_self]
theorem z_gath {n : Nat} {o v : List Int} (h : isPerm n o) (hv : v.length = n) (z : z01 v) : z01 (gath o v) := fun x hx => by
  obtain ⟨y, hy, rfl⟩ := List.mem_map.mp hx
  have := h.2.2 y hy
  have hl : y.toNat < v.length := by omega
  rw [List.getD_eq_getElem?_getD, List.getElem?_eq_getElem hl]
  exact z _ (List.getElem_mem _)
/-- all choices that are met, in their order -/
def choF (ns : List Int) (due : Int) : List (List Int) := (allV ns.length).filter fun v => decide (dotI v ns = due)
theorem cho_srt {ns o : List Int} {due : Int} (hp : isPerm ns.length o) (hf : ∀ x ∈ ns, 0 ≤ x) (hd : 0 ≤ due) : srtI ((bgF (gath o ns) due ns.length).map fun p => scat o p.2) = choF ns due := by
  have lo := hp.1
  have lg : (gath o ns).length = ns.length := by rw [gath_len, lo]
  have hg : ∀ x ∈ gath o ns, 0 ≤ x := fun x hx => by
    obtain ⟨y, hy, rfl⟩ := List.mem_map.mp hx
    have := hp.2.2 y hy
    have hl : y.toNat < ns.length := by omega
    rw [List.getD_eq_getElem?_getD, List.getElem?_eq_getElem hl]
    exact hf _ (List.getElem_mem _)
  have mb := mem_bg hg hd ns.length (by omega)
  have sc2 : ∀ p ∈ bgF (gath o ns) due ns.length, p.2.length = ns.length ∧ z01 p.2 ∧ dotI p.2 (gath o ns) = due := fun p hp2 => by
    obtain ⟨a1, a2, a3, a4, a5⟩ := (mb p).mp hp2
    rw [List.drop_eq_nil_of_le (by omega), List.sum_nil] at a5
    rw [List.take_of_length_le (by omega)] at a3
    exact ⟨a1, a2, by omega⟩
  have srt : (choF ns due).Pairwise (· ≤ ·) := (allV_srt _).filter _
  refine pw_eq (srtI_pw _) srt ((srtI_perm _).trans (perm_nd ?_ ((allV_nd _).filter _) fun v => ?_))
  · have := bg_nd (gath o ns) due ns.length
    rw [List.Nodup, List.pairwise_map] at this ⊢
    refine List.Pairwise.imp_of_mem (fun {p q} hp2 hq h e => h ?_) this
    rw [← gath_scat hp (sc2 p hp2).1, ← gath_scat hp (sc2 q hq).1, e]
  · unfold choF
    rw [List.mem_filter, mem_allV, decide_eq_true_iff]
    constructor
    · intro h
      obtain ⟨p, hp2, rfl⟩ := List.mem_map.mp h
      obtain ⟨b1, b2, b3⟩ := sc2 p hp2
      have lsc : (scat o p.2).length = ns.length := by rw [scat_len, lo]
      refine ⟨⟨lsc, fun x hx => ?_⟩, by rw [← dot_gath hp lsc rfl, gath_scat hp b1]; exact b3⟩
      obtain ⟨j, hj, rfl⟩ := List.mem_iff_getElem.mp hx
      have hj' : j < ns.length := by rw [← lsc]; exact hj
      have e := scat_get hp b1 hj'
      rw [List.getD_eq_getElem?_getD, List.getElem?_eq_getElem hj] at e
      have e : (scat o p.2)[j] = p.2.getD (o.idxOf (j : Int)) 0 := e
      have hi : o.idxOf (j : Int) < p.2.length := by
        have := List.idxOf_lt_length_of_mem (pmem hp hj')
        omega
      rw [e, List.getD_eq_getElem?_getD, List.getElem?_eq_getElem hi]
      exact b2 _ (List.getElem_mem _)
    · rintro ⟨⟨h1, h2⟩, h3⟩
      refine List.mem_map.mpr ⟨(0, gath o v), (mb _).mpr ⟨by rw [gath_len, lo], z_gath hp h1 h2, ?_, by simp, ?_⟩, scat_gath hp h1⟩
      · dsimp only
        rw [List.take_of_length_le (by omega), dot_gath hp h1 rfl]
        omega
      · rw [List.drop_eq_nil_of_le (by omega)]
        simp
/-- the order that the key gives is one of all places -/
theorem lsrt_perm (ns : List Int) : isPerm ns.length (lsrt ns) := by
  have p : (lsrt ns).Perm (rngZ ns.length) := List.mergeSort_perm _ _
  have nd : (rngZ ns.length).Nodup := by
    unfold rngZ
    rw [List.Nodup, List.pairwise_map]
    exact List.pairwise_lt_range.imp fun h e => by omega
  exact ⟨by rw [p.length_eq]; simp [rngZ], p.nodup_iff.mpr nd, fun x hx => mem_rngZ.mp (p.mem_iff.mp hx)⟩
/-! ### choices, walked -/
def pD (p : Int × List Int) : D := .tup [.int p.1, lstI p.2]
theorem split_pD {m : Md} : ∀ ps : List (Int × List Int), splitA m (ps.map pD) = some (ps.map fun p => [(Md.dp, D.int p.1), (m, lstI p.2)])
  | [] => rfl
  | p :: ps => by
    have e : splitA m (pD p :: ps.map pD) = (splitA m (ps.map pD)).map ([childM m (.int p.1), childM m (lstI p.2)] :: ·) := rfl
    rw [List.map_cons, e, split_pD ps]
    rfl
theorem longer_ok {bg : List (Int × List Int)} {number tail : Int} (hb : bg.length ≤ 4000000) (hl : ∀ p ∈ bg, p.2.length ≤ 100) :
    F_longer_ones [(.lk, .lst (bg.map pD)), (.lk, .int number), (.lk, .int tail)] = .ok (.dp, .lst ((longF bg number tail).map pD)) [some (.lk, .lst (bg.map pD)), some (.lk, .int number), some (.lk, .int tail)] := by
  refine wp_eq (w_longer_ones ?_)
  have ll := long_len bg number tail
  have sp := split_pD (m := .lk) bg
  obtain ⟨BD, hBD⟩ : ∃ BD, BD = bg.map pD := ⟨_, rfl⟩
  rw [← hBD] at sp ⊢
  have fB : flat (.lst BD) = false := rfl
  refine wp_step (s := s_longer_ones_1) (ev' := [some (.lk, .lst BD), some (.lk, .int number), some (.lk, .int tail), some (.dp, .lst []), none, none]) (by simp [s_longer_ones_1]) ?_
  refine wp_seq (wp_for (items := bg.map fun p => [(Md.dp, D.int p.1), (Md.lk, lstI p.2)]) (ev' := [some (.lk, .lst BD), some (.lk, .int number), some (.lk, .int tail), some (.dp, .lst []), none, none]) (by simp [srcV, vwI, itsD, sp]) (fun i e => ∃ (Z : List (Int × List Int)) (x4 x5 : Option MD), Z ++ longF (bg.drop i) number tail = longF bg number tail ∧ e = [some (.lk, .lst BD), some (.lk, .int number), some (.lk, .int tail), some (.dp, .lst (Z.map pD)), x4, x5]) ⟨[], none, none, by simp, rfl⟩ ?_ ?_)
  · rintro i x e hx ⟨Z, x4, x5, hZ, rfl⟩
    rw [List.getElem?_map] at hx
    obtain ⟨p, hp, rfl⟩ := Option.map_eq_some_iff.mp hx
    have lp := hl p (List.mem_of_getElem? hp)
    have eD : longF (bg.drop i) number tail = ((if 0 ≤ p.1 - number ∧ p.1 - number ≤ tail then [(p.1 - number, p.2 ++ [1])] else []) ++ (if p.1 ≤ tail then [(p.1, p.2 ++ [0])] else [])) ++ longF (bg.drop (i + 1)) number tail := by
      unfold longF
      rw [drop_get hp, List.flatMap_cons]
    rw [eD] at hZ
    generalize hR : longF (bg.drop (i + 1)) number tail = REST at *
    refine ⟨rfl, by simp, ?_⟩
    obtain ⟨l, t⟩ := p
    dsimp only at *
    have zt : (t.map D.int).length + 1 ≤ sizeLine := x_sz (by rw [List.length_map]; omega)
    have ft : flats (t.map D.int) = true := flats_int
    have eT : ∀ b : Int, (t ++ [b]).map D.int = t.map D.int ++ [.int b] := fun b => by rw [List.map_append]; rfl
    have hZl := congrArg List.length hZ
    simp only [List.length_append] at hZl
    have e0 : ∀ Z : List (Int × List Int), Z.length + 1 ≤ 16000000 → ((Z.map pD).length < sizeLine) := fun Z h => Nat.lt_of_lt_of_le (show _ < 16777216 by rw [List.length_map]; omega) (by decide)
    have one : ∃ Z1, Z1 = Z ++ (if 0 ≤ l - number ∧ l - number ≤ tail then [(l - number, t ++ [1])] else []) ∧ s_longer_ones_3 [some (.lk, .lst BD), some (.lk, .int number), some (.lk, .int tail), some (.dp, .lst (Z.map pD)), some (.dp, .int l), some (.lk, lstI t)] = .nx [some (.lk, .lst BD), some (.lk, .int number), some (.lk, .int tail), some (.dp, .lst (Z1.map pD)), some (.dp, .int l), some (.lk, lstI t)] := by
      by_cases c : 0 ≤ l - number ∧ l - number ≤ tail
      · refine ⟨_, rfl, ?_⟩
        rw [if_pos c] at hZl ⊢
        have z := e0 Z (by simp only [List.length_cons, List.length_nil] at hZl; omega)
        rw [List.map_append]
        show _ = Fl.nx [some (.lk, .lst BD), some (.lk, .int number), some (.lk, .int tail), some (.dp, .lst (Z.map pD ++ [.tup [.int (l - number), .lst ((t ++ [1]).map D.int)]])), some (.dp, .int l), some (.lk, .lst (t.map D.int))]
        rw [eT]
        unfold lstI
        generalize Z.map pD = ZD at *
        generalize t.map D.int = T0 at *
        have c3 : number ≤ l := by omega
        have c4 := c.2
        simp [s_longer_ones_3, s_longer_ones_4, bChain, c3, c4, zt, ft, mutG, appU, z]
      · refine ⟨_, rfl, ?_⟩
        rw [if_neg c, List.append_nil]
        generalize Z.map pD = ZD at *
        have c' : number ≤ l → ¬ l - number ≤ tail := fun h1 h2 => c ⟨by omega, h2⟩
        generalize lstI t = TD at *
        by_cases c2 : number ≤ l
        · simp [s_longer_ones_3, bChain, c2, c' c2]
        · simp [s_longer_ones_3, bChain, c2]
    obtain ⟨Z1, hZ1, s3⟩ := one
    refine wp_step s3 ?_
    rw [← List.append_assoc, ← List.append_assoc, ← hZ1] at hZ
    have hZl := congrArg List.length hZ
    simp only [List.length_append] at hZl
    by_cases c : l ≤ tail
    · rw [if_pos c] at hZ hZl
      refine wp_nx (s := s_longer_ones_5) (ev' := [some (.lk, .lst BD), some (.lk, .int number), some (.lk, .int tail), some (.dp, .lst ((Z1 ++ [(l, t ++ [0])]).map pD)), some (.dp, .int l), some (.lk, lstI t)]) ?_ ⟨_, _, _, hZ, rfl⟩
      have z := e0 Z1 (by simp only [List.length_cons, List.length_nil] at hZl; omega)
      rw [List.map_append]
      show _ = Fl.nx [some (.lk, .lst BD), some (.lk, .int number), some (.lk, .int tail), some (.dp, .lst (Z1.map pD ++ [.tup [.int l, .lst ((t ++ [0]).map D.int)]])), some (.dp, .int l), some (.lk, .lst (t.map D.int))]
      rw [eT]
      unfold lstI
      generalize Z1.map pD = ZD at *
      generalize t.map D.int = T0 at *
      simp [s_longer_ones_5, s_longer_ones_6, c, zt, ft, mutG, appU, z]
    · rw [if_neg c, List.append_nil] at hZ
      refine wp_nx (s := s_longer_ones_5) (ev' := [some (.lk, .lst BD), some (.lk, .int number), some (.lk, .int tail), some (.dp, .lst (Z1.map pD)), some (.dp, .int l), some (.lk, lstI t)]) ?_ ⟨_, _, _, hZ, rfl⟩
      generalize Z1.map pD = ZD at *
      generalize lstI t = TD at *
      simp [s_longer_ones_5, c]
  · rintro e ⟨Z, x4, x5, hZ, rfl⟩
    rw [List.length_map, List.drop_length] at hZ
    have : Z = longF bg number tail := by rw [← hZ]; simp [longF]
    rw [← this]
    generalize Z.map pD = ZD at *
    dsimp only
    exact wp_rt (r := (.dp, .lst ZD)) (ev' := [some (.lk, .lst BD), some (.lk, .int number), some (.lk, .int tail), none, x4, x5]) (by simp [s_longer_ones_7]) ⟨by simp, rfl, by simp⟩
def sufS (fs : List Int) : List Int := (List.range (fs.length + 1)).map fun k => (fs.drop k).sum
def tlI (fs : List Int) (i : Nat) : List Int := (List.range (i + 1)).map fun j => (fs.drop (fs.length - j)).sum
theorem tlI_s (fs : List Int) (i : Nat) : tlI fs (i + 1) = tlI fs i ++ [(fs.drop (fs.length - (i + 1))).sum] := by unfold tlI; rw [List.range_succ, List.map_append]; rfl
theorem tlI_l (fs : List Int) (i : Nat) : ∃ Z, tlI fs i = Z ++ [(fs.drop (fs.length - i)).sum] := by
  cases i with
  | zero => exact ⟨[], rfl⟩
  | succ i => exact ⟨_, tlI_s fs i⟩
theorem tlI_rev (fs : List Int) : (tlI fs fs.length).reverse = sufS fs := by
  unfold tlI sufS
  refine List.ext_getElem (by simp) fun j h1 h2 => ?_
  have hj : j < fs.length + 1 := by simpa using h2
  rw [List.getElem_reverse]
  simp only [List.length_map, List.length_range, List.getElem_map, List.getElem_range]
  congr 2
  omega
theorem tails_ok {fs : List Int} (h : fs.length ≤ 1000) : F_tails_of [(.lk, lstI fs)] = .ok (.dp, lstI (sufS fs)) [some (.lk, lstI fs)] := by
  refine wp_eq (w_tails_of ?_)
  have e0 : (tlI fs 0).map D.int = [.int 0] := by simp [tlI]
  refine wp_step (s := s_tails_of_1) (ev' := [some (.lk, lstI fs), some (.dp, .lst ((tlI fs 0).map D.int)), none]) (by rw [e0]; simp [s_tails_of_1]) ?_
  have fr : flats (fs.map D.int).reverse = true := by rw [← List.map_reverse]; exact flats_int
  refine wp_seq (wp_ints (tg := 2) (ns := fs.reverse) (ev' := [some (.lk, lstI fs), some (.dp, .lst ((tlI fs 0).map D.int)), none]) ?_ (fun i e => ∃ x2, e = [some (.lk, lstI fs), some (.dp, .lst ((tlI fs i).map D.int)), x2]) ⟨none, rfl⟩ ?_ ?_)
  · have k : kidsL .sh (fs.map D.int).reverse = intsL fs.reverse := by rw [← List.map_reverse]; exact kidsL_int
    generalize (tlI fs 0).map D.int = TD at *
    unfold lstI
    generalize fs.map D.int = FD at *
    simp [gRev, fr, k]
  · rintro i x e hx ⟨x2, rfl⟩
    refine ⟨by simp, ?_⟩
    have hi : i < fs.length := by have := (List.getElem?_eq_some_iff.mp hx).1; simpa using this
    obtain ⟨Z, hZ⟩ := tlI_l fs i
    have lz : (tlI fs i).length = i + 1 := by simp [tlI]
    have nxt : (fs.drop (fs.length - (i + 1))).sum = (fs.drop (fs.length - i)).sum + x := by
      have hg : fs[fs.length - (i + 1)]? = some x := by
        rw [List.getElem?_reverse hi] at hx
        rw [← hx]
        congr 1
        omega
      rw [drop_get hg, List.sum_cons, show fs.length - (i + 1) + 1 = fs.length - i from by omega]
      omega
    have z : ((tlI fs i).map D.int).length < 1000000 := by rw [List.length_map, lz]; omega
    have al : atI ((tlI fs i).map D.int) (-1) = some (.int (fs.drop (fs.length - i)).sum) := by rw [hZ, List.map_append]; exact atI_last
    rw [tlI_s, nxt, List.map_append]
    generalize (fs.drop (fs.length - i)).sum = la at *
    generalize (tlI fs i).map D.int = TD at *
    generalize lstI fs = FD at *
    refine wp_nx (s := l_tails_of_2) (ev' := [some (.lk, FD), some (.dp, .lst (TD ++ [.int (la + x)])), some (.dp, .int x)]) (by simp [l_tails_of_2, s_tails_of_3, al, mutG, appU, size_lt z]) ⟨_, rfl⟩
  · rintro e ⟨x2, rfl⟩
    rw [List.length_reverse]
    dsimp only
    have ft : flats ((tlI fs fs.length).map D.int).reverse = true := by rw [← List.map_reverse]; exact flats_int
    have er : ((tlI fs fs.length).map D.int).reverse = (sufS fs).map D.int := by rw [← List.map_reverse, tlI_rev]
    unfold lstI
    rw [← er]
    generalize (tlI fs fs.length).map D.int = TD at *
    generalize fs.map D.int = FD at *
    exact wp_rt (r := (.dp, .lst TD.reverse)) (ev' := [some (.lk, .lst FD), some (.dp, .lst TD), x2]) (by simp [s_tails_of_4, gRev, ft]) ⟨by simp, rfl, by simp⟩

theorem suf_at {fs : List Int} {k : Nat} (h : k ≤ fs.length) : atI ((sufS fs).map D.int) (k : Int) = some (.int (fs.drop k).sum) := by
  rw [x_atI (by omega) (by simp [sufS]; omega)]
  have : k < (sufS fs).length := by simp [sufS]; omega
  simp [sufS, show k < fs.length + 1 from by omega]
theorem bg_all {fs : List Int} {due : Int} : ∀ (k : Nat), ∀ p ∈ bgF fs due k, p.2.length = k
  | 0, p, h => by
    unfold bgF at h
    split at h
    · cases h
    · rw [List.mem_singleton.mp h]; rfl
  | k + 1, p, h => by
    obtain ⟨q, hq, h⟩ := List.mem_flatMap.mp (show p ∈ longF _ _ _ from h)
    have := bg_all k q hq
    rcases List.mem_append.mp h with z | z
    · split at z
      · rw [List.mem_singleton.mp z]; simp [this]
      · cases z
    · split at z
      · rw [List.mem_singleton.mp z]; simp [this]
      · cases z
theorem choices_ok {ns : List Int} {due : Int} (hn : ns.length ≤ 90) (hf : ∀ x ∈ ns, 0 ≤ x) (hd : 0 ≤ due) (hB : ∀ k, k ≤ ns.length → (bgF (gath (lsrt ns) ns) due k).length ≤ 1000000) :
    F_choices [(.lk, .tup [lstI ns, .int due])] = .ok (.dp, .lst ((choF ns due).map lstI)) [some (.lk, .tup [lstI ns, .int due])] := by
  refine wp_eq (w_choices ?_)
  have op := lsrt_perm ns
  have cs := cho_srt op hf hd
  obtain ⟨TT, hTT⟩ : ∃ TT, TT = D.tup [lstI ns, .int due] := ⟨_, rfl⟩
  rw [← hTT]
  have fN : flat (lstI ns) = false := rfl
  refine wp_step (s := s_choices_1) (ev' := [some (.lk, TT), some (.lk, lstI ns), some (.dp, .int due), none, none, none, none, none, none, none, none, none, none, none, none]) (by rw [hTT]; generalize lstI ns = ND at *; simp [s_choices_1, fN]) ?_
  have l1000 : ns.length < 1000 := by omega
  generalize hO : lsrt ns = o at *
  obtain ⟨OD, hOD⟩ : ∃ OD, OD = o.map D.int := ⟨_, rfl⟩
  refine wp_step (s := s_choices_2) (ev' := [some (.lk, TT), some (.lk, lstI ns), some (.dp, .int due), some (.dp, .lst OD), none, none, none, none, none, none, none, none, none, none, none]) (by rw [hOD]; unfold lstI; simp [s_choices_2, x_srtKey, hO, l1000]) ?_
  have lo : o.length = ns.length := op.1
  have kO : kidsL .sh OD = o.map fun x => [(Md.dp, D.int x)] := by rw [hOD]; exact kidsL_int
  have lc3 := lc_pure (tgs := [13]) (own := [13]) (test := tYesM) (elt := (capM (pIx (pName 1) (pName 13)))) (ev := [some (.lk, TT), some (.lk, lstI ns), some (.dp, .int due), some (.sh, .lst OD), none, none, none, none, none, none, none, none, none, none, none]) (fun x : Int => [(Md.dp, D.int x)]) (fun _ => true) (fun x => D.int (ns.getD x.toNat 0)) (by simp) o [] (by simp) (fun _ _ => rfl) (fun x hx _ => by
    have hr := op.2.2 x hx
    have a : atI (ns.map D.int) x = some (.int (ns.getD x.toNat 0)) := by
      rw [x_atI hr.1 (by rw [List.length_map]; exact hr.2)]
      have : x.toNat < ns.length := by omega
      simp [this]
    unfold lstI
    generalize ns.map D.int = ND at *
    simp [a]) (by simp) (by simp; omega)
  rw [List.nil_append, List.filter_eq_self.mpr (fun _ _ => rfl)] at lc3
  have e3 : o.map (fun x => D.int (ns.getD x.toNat 0)) = (gath o ns).map D.int := by unfold gath; rw [List.map_map]; rfl
  rw [e3] at lc3
  have lg : (gath o ns).length = ns.length := by rw [gath_len, lo]
  have hta := tails_ok (fs := gath o ns) (by omega)
  generalize hfs : gath o ns = fs at *
  have fF : flats (fs.map D.int) = true := flats_int
  have fO : flats OD = true := by rw [hOD]; exact flats_int
  obtain ⟨FD, hFD⟩ : ∃ FD, FD = fs.map D.int := ⟨_, rfl⟩
  rw [← hFD] at lc3 fF
  have fN : flat (lstI ns) = false := rfl
  refine wp_step (s := s_choices_3) (ev' := [some (.lk, TT), some (.lk, lstI ns), some (.dp, .int due), some (.sh, .lst OD), some (.sh, .lst FD), none, none, none, none, none, none, none, none, none, none]) (by
    generalize lstI ns = ND at *
    (try simp at lc3)
    simp [s_choices_3, kO, lc3]) ?_
  have sat := fun k (h : k ≤ fs.length) => suf_at (fs := fs) h
  have sat0 : atI ((sufS fs).map D.int) 0 = some (.int fs.sum) := by have := sat 0 (by omega); rwa [List.drop_zero] at this
  obtain ⟨SD, hSD⟩ : ∃ SD, SD = (sufS fs).map D.int := ⟨_, rfl⟩
  have hta : F_tails_of [(.lk, .lst FD)] = .ok (.dp, .lst SD) [some (.lk, .lst FD)] := by rw [hFD, hSD]; exact hta
  rw [← hSD] at sat sat0
  refine wp_step (s := s_choices_4) (ev' := [some (.lk, TT), some (.lk, lstI ns), some (.dp, .int due), some (.sh, .lst OD), some (.sh, .lst FD), some (.dp, .lst SD), none, none, none, none, none, none, none, none, none]) (by generalize lstI ns = ND at *; simp [s_choices_4, hta]) ?_
  refine wp_step (s := s_choices_5) (ev' := [some (.lk, TT), some (.lk, lstI ns), some (.dp, .int due), some (.sh, .lst OD), some (.sh, .lst FD), some (.dp, .lst SD), some (.dp, .lst [pD (due, [])]), none, none, none, none, none, none, none, none]) (by generalize lstI ns = ND at *; simp [s_choices_5, pD, lstI]) ?_
  refine wp_step (s := s_choices_6) (ev' := [some (.lk, TT), some (.lk, lstI ns), some (.dp, .int due), some (.sh, .lst OD), some (.sh, .lst FD), some (.dp, .lst SD), some (.dp, .lst ((bgF fs due 0).map pD)), none, none, none, none, none, none, none, none]) (by
    generalize lstI ns = ND at *
    unfold bgF
    by_cases c : due > fs.sum
    · rw [if_pos c]; simp [s_choices_6, s_choices_7, sat0, c]
    · rw [if_neg c]; simp [s_choices_6, sat0, c]) ?_
  have lF : FD.length = ns.length := by rw [hFD, List.length_map, lg]
  refine wp_seq (wp_enum (tg := 7) (tg2 := 8) (m := .sh) (ds := FD) (ev' := [some (.lk, TT), some (.lk, lstI ns), some (.dp, .int due), some (.sh, .lst OD), some (.sh, .lst FD), some (.dp, .lst SD), some (.dp, .lst ((bgF fs due 0).map pD)), none, none, none, none, none, none, none, none]) (by generalize lstI ns = ND at *; generalize (bgF fs due 0).map pD = BD at *; simp [fF]) (fun i e => ∃ x7 x8, e = [some (.lk, TT), some (.lk, lstI ns), some (.dp, .int due), some (.sh, .lst OD), some (.sh, .lst FD), some (.dp, .lst SD), some (.dp, .lst ((bgF fs due i).map pD)), x7, x8, none, none, none, none, none, none]) ⟨none, none, rfl⟩ ?_ ?_)
  · rintro i x e hx ⟨x7, x8, rfl⟩
    rw [hFD, List.getElem?_map] at hx
    obtain ⟨number, hx2, rfl⟩ := Option.map_eq_some_iff.mp hx
    have hi : i < fs.length := (List.getElem?_eq_some_iff.mp hx2).1
    have eg : fs.getD i 0 = number := by rw [List.getD_eq_getElem?_getD, hx2]; rfl
    refine ⟨by simp, by simp, ?_⟩
    have sa := sat (i + 1) (by omega)
    have lo2 := longer_ok (bg := bgF fs due i) (number := number) (tail := (fs.drop (i + 1)).sum) (by have := hB i (by omega); omega) (fun p hp => by have := bg_all i p hp; omega)
    have eB : bgF fs due (i + 1) = longF (bgF fs due i) number ((fs.drop (i + 1)).sum) := by rw [← eg]; rfl
    rw [← eB] at lo2
    refine wp_nx (s := l_choices_8) (ev' := [some (.lk, TT), some (.lk, lstI ns), some (.dp, .int due), some (.sh, .lst OD), some (.sh, .lst FD), some (.dp, .lst SD), some (.dp, .lst ((bgF fs due (i + 1)).map pD)), some (.dp, .int i), some (.dp, .int number), none, none, none, none, none, none]) ?_ ⟨_, _, rfl⟩
    generalize (bgF fs due (i + 1)).map pD = B2 at *
    generalize (bgF fs due i).map pD = B1 at *
    generalize lstI ns = ND at *
    generalize (fs.drop (i + 1)).sum = tail at *
    rw [show ((i + 1 : Nat) : Int) = (i : Int) + 1 from by omega] at sa
    simp [l_choices_8, s_choices_9, sa, lo2]
  rintro e ⟨x7, x8, rfl⟩
  rw [lF]
  dsimp only
  have ball := bg_all (fs := fs) (due := due) ns.length
  have bl := hB ns.length (Nat.le_refl _)
  generalize hBG : bgF fs due ns.length = BG at *
  have sp := split_pD (m := .sh) BG
  refine wp_step (s := s_choices_10) (ev' := [some (.lk, TT), some (.lk, lstI ns), some (.dp, .int due), some (.sh, .lst OD), some (.sh, .lst FD), some (.dp, .lst SD), some (.dp, .lst (BG.map pD)), x7, x8, some (.dp, .lst []), none, none, none, none, none]) (by generalize BG.map pD = BD at *; generalize lstI ns = ND at *; simp [s_choices_10]) ?_
  refine wp_seq (wp_for (items := BG.map fun p => [(Md.dp, D.int p.1), (Md.sh, lstI p.2)]) (ev' := [some (.lk, TT), some (.lk, lstI ns), some (.dp, .int due), some (.sh, .lst OD), some (.sh, .lst FD), some (.dp, .lst SD), some (.sh, .lst (BG.map pD)), x7, x8, some (.dp, .lst []), none, none, none, none, none]) (by
      generalize BG.map pD = BD at *
      generalize lstI ns = ND at *
      simp [srcM, itsD, sp]) (fun i e => ∃ (x8 x10 x11 x12 x13 x14 : Option MD), e = [some (.lk, TT), some (.lk, lstI ns), some (.dp, .int due), some (.sh, .lst OD), some (.sh, .lst FD), some (.dp, .lst SD), some (.sh, .lst (BG.map pD)), x7, x8, some (.dp, .lst (((BG.take i).map fun p => scat o p.2).map lstI)), x10, x11, x12, x13, x14]) ⟨x8, none, none, none, none, none, rfl⟩ ?_ ?_)
  · rintro i x e hx ⟨x8, x10, x11, x12, x13, x14, rfl⟩
    rw [List.getElem?_map] at hx
    obtain ⟨p, hp, rfl⟩ := Option.map_eq_some_iff.mp hx
    refine ⟨rfl, by simp, ?_⟩
    have hi := (List.getElem?_eq_some_iff.mp hp).1
    have lp := ball p (List.mem_of_getElem? hp)
    obtain ⟨l, t⟩ := p
    dsimp only at lp
    rw [take_get hp]
    simp only [List.map_append, List.map_cons, List.map_nil]
    have z : (((BG.take i).map fun p => scat o p.2).map lstI).length < sizeLine := Nat.lt_of_lt_of_le (show _ < 16777216 by simp; omega) (by decide)
    generalize ((BG.take i).map fun p => scat o p.2).map lstI = AC at *
    generalize BG.map pD = BD at *
    have kN : kidsL .lk (ns.map D.int) = ns.map fun x => [(Md.dp, D.int x)] := kidsL_int
    have lc12 := lc_pure (tgs := [8]) (own := [8]) (test := tYesM) (elt := (capM (pC (.int 0)))) (ev := [some (.lk, TT), some (.lk, lstI ns), some (.dp, .int due), some (.sh, .lst OD), some (.sh, .lst FD), some (.dp, .lst SD), some (.sh, .lst BD), x7, none, some (.dp, .lst AC), some (.dp, .int l), some (.sh, lstI t), x12, x13, x14]) (fun x : Int => [(Md.dp, D.int x)]) (fun _ => true) (fun _ => D.int 0) (by simp) ns [] (by simp) (fun _ _ => rfl) (fun x hx _ => by
      generalize lstI ns = ND at *
      generalize lstI t = TD at *
      simp) (by simp) (by simp; omega)
    rw [List.nil_append, List.filter_eq_self.mpr (fun _ _ => rfl)] at lc12
    have e12 : ns.map (fun _ => D.int 0) = (List.replicate o.length (0 : Int)).map D.int := by rw [List.map_const', List.map_replicate, lo]
    rw [e12] at lc12
    refine wp_step (s := s_choices_12) (ev' := [some (.lk, TT), some (.lk, lstI ns), some (.dp, .int due), some (.sh, .lst OD), some (.sh, .lst FD), some (.dp, .lst SD), some (.sh, .lst BD), x7, x8, some (.dp, .lst AC), some (.dp, .int l), some (.sh, lstI t), some (.dp, .lst ((List.replicate o.length (0 : Int)).map D.int)), x13, x14]) ?_ ?_
    · generalize (List.replicate o.length (0 : Int)).map D.int = RD at *
      generalize hND : lstI ns = ND at *
      unfold lstI at hND
      generalize lstI t = TD at *
      have kN2 : kidsL .lk (ns.map D.int) = ns.map fun x => [(Md.dp, D.int x)] := kN
      rw [← hND] at lc12 ⊢
      generalize ns.map D.int = NN at *
      (try simp at lc12)
      simp [s_choices_12, kN2, lc12]
    refine wp_seq (wp_zip (tg := 13) (tg2 := 14) (m := .sh) (m2 := .sh) (ds := OD) (es := t.map D.int) (ev' := [some (.lk, TT), some (.lk, lstI ns), some (.dp, .int due), some (.sh, .lst OD), some (.sh, .lst FD), some (.dp, .lst SD), some (.sh, .lst BD), x7, x8, some (.dp, .lst AC), some (.dp, .int l), some (.sh, lstI t), some (.dp, .lst ((List.replicate o.length (0 : Int)).map D.int)), x13, x14]) ?_ (fun j e => ∃ (v : List Int) (x13 x14 : Option MD), setF v ((o.zip t).drop j) = scat o t ∧ v.length = o.length ∧ e = [some (.lk, TT), some (.lk, lstI ns), some (.dp, .int due), some (.sh, .lst OD), some (.sh, .lst FD), some (.dp, .lst SD), some (.sh, .lst BD), x7, x8, some (.dp, .lst AC), some (.dp, .int l), some (.sh, lstI t), some (.dp, .lst (v.map D.int)), x13, x14]) ⟨List.replicate o.length 0, x13, x14, rfl, by simp, rfl⟩ ?_ ?_)
    · generalize (List.replicate o.length (0 : Int)).map D.int = RD at *
      generalize lstI ns = ND at *
      unfold lstI
      generalize t.map D.int = TD at *
      simp
    · rintro j a b e ha hb ⟨v, x13, x14, hv, lv, rfl⟩
      rw [hOD, List.getElem?_map] at ha
      obtain ⟨at_, ha2, rfl⟩ := Option.map_eq_some_iff.mp ha
      rw [List.getElem?_map] at hb
      obtain ⟨one, hb2, rfl⟩ := Option.map_eq_some_iff.mp hb
      refine ⟨by simp, by simp, ?_⟩
      have hz : (o.zip t)[j]? = some (at_, one) := by rw [List.getElem?_zip_eq_some]; exact ⟨ha2, hb2⟩
      rw [drop_get hz, setF] at hv
      have hr := op.2.2 at_ (List.mem_of_getElem? ha2)
      have es : (v.set at_.toNat one).map D.int = (v.map D.int).set at_.toNat (.int one) := by rw [List.map_set]
      refine wp_nx (s := l_choices_13) (ev' := [some (.lk, TT), some (.lk, lstI ns), some (.dp, .int due), some (.sh, .lst OD), some (.sh, .lst FD), some (.dp, .lst SD), some (.sh, .lst BD), x7, x8, some (.dp, .lst AC), some (.dp, .int l), some (.sh, lstI t), some (.dp, .lst ((v.set at_.toNat one).map D.int)), some (.dp, .int at_), some (.dp, .int one)]) ?_ ⟨_, _, _, hv, by rw [List.length_set]; exact lv, rfl⟩
      have lvd : (v.map D.int).length = ns.length := by rw [List.length_map, lv, lo]
      rw [es]
      generalize v.map D.int = VD at *
      generalize lstI ns = ND at *
      generalize lstI t = TD at *
      have c1 : 0 ≤ at_ := hr.1
      have c2 : at_ < (VD.length : Int) := by rw [lvd]; exact hr.2
      have c3 : at_.toNat < VD.length := by omega
      simp [l_choices_13, s_choices_14, setIG, mutG, setU, c1, c2, c3]
    · rintro e ⟨v, x13, x14, hv, lv, rfl⟩
      have hlen : (o.zip t).length = min OD.length (t.map D.int).length := by rw [List.length_zip, hOD, List.length_map, List.length_map]
      rw [← hlen, List.drop_length, setF] at hv
      subst hv
      dsimp only
      refine wp_nx (s := s_choices_15) (ev' := [some (.lk, TT), some (.lk, lstI ns), some (.dp, .int due), some (.sh, .lst OD), some (.sh, .lst FD), some (.dp, .lst SD), some (.sh, .lst BD), x7, x8, some (.dp, .lst (AC ++ [lstI (scat o t)])), some (.dp, .int l), some (.sh, lstI t), none, x13, x14]) ?_ ⟨_, _, _, _, _, _, rfl⟩
      generalize lstI ns = ND at *
      generalize lstI t = TD at *
      show s_choices_15 [some (.lk, TT), some (.lk, ND), some (.dp, .int due), some (.sh, .lst OD), some (.sh, .lst FD), some (.dp, .lst SD), some (.sh, .lst BD), x7, x8, some (.dp, .lst AC), some (.dp, .int l), some (.sh, TD), some (.dp, lstI (scat o t)), x13, x14] = _
      generalize lstI (scat o t) = CD at *
      simp [s_choices_15, mutG, appU, z]
  · rintro e ⟨x8, x10, x11, x12, x13, x14, rfl⟩
    rw [List.length_map, List.take_length]
    dsimp only
    have sr := sortD_rows (xs := BG.map fun p => scat o p.2)
    rw [cs] at sr
    generalize ((BG.map fun p => scat o p.2)).map lstI = AC at *
    generalize (choF ns due).map lstI = CD at *
    generalize BG.map pD = BD at *
    generalize lstI ns = ND at *
    exact wp_rt (r := (.dp, .lst CD)) (ev' := [some (.lk, TT), some (.lk, ND), some (.dp, .int due), some (.sh, .lst OD), some (.sh, .lst FD), some (.dp, .lst SD), some (.sh, .lst BD), x7, x8, none, x10, x11, x12, x13, x14]) (by simp [s_choices_16, sr]) ⟨by simp, rfl, by simp⟩

/-! ### k37, plainly: numbers changed -/
theorem mem_cho {ns v : List Int} {due : Int} : v ∈ choF ns due ↔ (v.length = ns.length ∧ z01 v) ∧ dotI v ns = due := by
  unfold choF
  rw [List.mem_filter, mem_allV, decide_eq_true_iff]
  rfl
theorem cho_nd {ns : List Int} {due : Int} : (choF ns due).Nodup := (allV_nd _).filter _
theorem cho_pw {ns : List Int} {due : Int} : (choF ns due).Pairwise (· ≤ ·) := (allV_srt _).filter _
theorem srt_to {xs : List (List Int)} {ns : List Int} {due : Int} (nd : xs.Nodup) (h : ∀ v, v ∈ xs ↔ v ∈ choF ns due) : srtI xs = choF ns due := pw_eq (srtI_pw _) cho_pw ((srtI_perm _).trans (perm_nd nd cho_nd h))
theorem map_nd {α β : Type} {f : α → β} {xs : List α} (nd : xs.Nodup) (h : ∀ a ∈ xs, ∀ b ∈ xs, f a = f b → a = b) : (xs.map f).Nodup := by
  rw [List.Nodup, List.pairwise_map]
  exact List.Pairwise.imp_of_mem (fun {a b} ha hb ne e => ne (h a ha b hb e)) nd
theorem z_scat {n : Nat} {o t : List Int} (h : isPerm n o) (ht : t.length = n) (z : z01 t) : z01 (scat o t) := fun x hx => by
  obtain ⟨j, hj, rfl⟩ := List.mem_iff_getElem.mp hx
  have hj' : j < n := by rw [scat_len, h.1] at hj; exact hj
  have e := scat_get h ht hj'
  rw [List.getD_eq_getElem?_getD, List.getElem?_eq_getElem hj] at e
  have e : (scat o t)[j] = t.getD (o.idxOf (j : Int)) 0 := e
  have hi : o.idxOf (j : Int) < t.length := by
    have := List.idxOf_lt_length_of_mem (pmem h hj')
    rw [h.1] at this
    omega
  rw [e, List.getD_eq_getElem?_getD, List.getElem?_eq_getElem hi]
  exact z _ (List.getElem_mem _)
/-- in another order -/
theorem cho_order {ns o : List Int} {due : Int} (h : isPerm ns.length o) : srtI ((choF ns due).map (gath o)) = choF (gath o ns) due := by
  refine srt_to (map_nd cho_nd fun a ha b hb e => ?_) fun v => ⟨fun hv => ?_, fun hv => ?_⟩
  · rw [← scat_gath h (mem_cho.mp ha).1.1, ← scat_gath h (mem_cho.mp hb).1.1, e]
  · obtain ⟨u, hu, rfl⟩ := List.mem_map.mp hv
    obtain ⟨⟨a1, a2⟩, a3⟩ := mem_cho.mp hu
    exact mem_cho.mpr ⟨⟨by rw [gath_len, gath_len], z_gath h a1 a2⟩, by rw [dot_gath h a1 rfl, a3]⟩
  · obtain ⟨⟨a1, a2⟩, a3⟩ := mem_cho.mp hv
    rw [gath_len, h.1] at a1
    have ls : (scat o v).length = ns.length := by rw [scat_len, h.1]
    refine List.mem_map.mpr ⟨scat o v, mem_cho.mpr ⟨⟨ls, z_scat h a1 a2⟩, ?_⟩, gath_scat h a1⟩
    rw [← dot_gath h ls rfl, gath_scat h a1, a3]
/-- the others -/
theorem dot_not : ∀ {v ns : List Int}, v.length = ns.length → dotI (v.map fun x => 1 - x) ns = ns.sum - dotI v ns
  | [], [], _ => by simp [dotI]
  | x :: v, n :: ns, h => by
    have ih := dot_not (v := v) (ns := ns) (by simpa using h)
    unfold dotI at *
    rw [List.map_cons, List.zipWith_cons_cons, List.zipWith_cons_cons, List.sum_cons, List.sum_cons, List.sum_cons, ih, Int.sub_mul]
    omega
  | [], _ :: _, h => by simp at h
  | _ :: _, [], h => by simp at h
theorem not_not (v : List Int) : (v.map fun x => 1 - x).map (fun x => 1 - x) = v := by
  rw [List.map_map]
  refine (List.map_congr_left fun x _ => ?_).trans (List.map_id v)
  show 1 - (1 - x) = x
  omega
theorem z_not {v : List Int} (z : z01 v) : z01 (v.map fun x => 1 - x) := fun x hx => by
  obtain ⟨y, hy, rfl⟩ := List.mem_map.mp hx
  rcases z y hy with h | h <;> rw [h] <;> decide
theorem cho_not {ns : List Int} {due : Int} : srtI ((choF ns due).map fun v => v.map fun x => 1 - x) = choF ns (ns.sum - due) := by
  refine srt_to (map_nd cho_nd fun a _ b _ e => ?_) fun v => ⟨fun hv => ?_, fun hv => ?_⟩
  · rw [← not_not a, ← not_not b, e]
  · obtain ⟨u, hu, rfl⟩ := List.mem_map.mp hv
    obtain ⟨⟨a1, a2⟩, a3⟩ := mem_cho.mp hu
    exact mem_cho.mpr ⟨⟨by rw [List.length_map, a1], z_not a2⟩, by rw [dot_not a1, a3]⟩
  · obtain ⟨⟨a1, a2⟩, a3⟩ := mem_cho.mp hv
    exact List.mem_map.mpr ⟨v.map fun x => 1 - x, mem_cho.mpr ⟨⟨by rw [List.length_map, a1], z_not a2⟩, by rw [dot_not a1, a3]; omega⟩, not_not v⟩
/-- times a number -/
theorem dot_by {b : Int} : ∀ (v ns : List Int), dotI v (ns.map fun x => x * b) = dotI v ns * b
  | [], ns => by simp [dotI]
  | x :: v, [] => by simp [dotI]
  | x :: v, n :: ns => by
    have ih := dot_by (b := b) v ns
    unfold dotI at *
    rw [List.map_cons, List.zipWith_cons_cons, List.zipWith_cons_cons, List.sum_cons, List.sum_cons, ih, Int.add_mul, Int.mul_assoc]
theorem cho_by {ns : List Int} {due b : Int} (hb : 1 ≤ b) : choF (ns.map fun x => x * b) (due * b) = choF ns due := by
  unfold choF
  rw [List.length_map]
  refine List.filter_congr fun v _ => ?_
  rw [dot_by]
  exact decide_eq_decide.mpr ⟨fun h => Int.eq_of_mul_eq_mul_right (by omega) h, fun h => by rw [h]⟩
/-- one more -/
theorem dot_nn {v ns : List Int} (z : z01 v) (hn : ∀ x ∈ ns, 0 ≤ x) : 0 ≤ dotI v ns := by
  unfold dotI
  induction v generalizing ns with
  | nil => simp
  | cons x v ih =>
    cases ns with
    | nil => simp
    | cons n ns =>
      rw [List.zipWith_cons_cons, List.sum_cons]
      have h1 := ih (fun y hy => z y (List.mem_cons_of_mem _ hy)) (fun y hy => hn y (List.mem_cons_of_mem _ hy))
      have h2 := hn n List.mem_cons_self
      rcases z x List.mem_cons_self with rfl | rfl <;> omega
theorem snoc_nd {xs : List (List Int)} {b : Int} (h : xs.Nodup) : (xs.map (· ++ [b])).Nodup := map_nd h fun x _ y _ e => (List.append_inj' e rfl).1
theorem cho_more {ns : List Int} {due more : Int} (hn : ∀ x ∈ ns, 0 ≤ x) : srtI ((choF ns due).map (· ++ [0]) ++ if more ≤ due then (choF ns (due - more)).map (· ++ [1]) else []) = choF (ns ++ [more]) due := by
  refine srt_to ?_ fun v => ⟨fun hv => ?_, fun hv => ?_⟩
  · refine List.nodup_append.mpr ⟨snoc_nd cho_nd, ?_, fun a ha b hb e => ?_⟩
    · split
      · exact snoc_nd cho_nd
      · exact List.nodup_nil
    · split at hb
      · obtain ⟨x, _, rfl⟩ := List.mem_map.mp ha
        obtain ⟨y, _, rfl⟩ := List.mem_map.mp hb
        have := (List.append_inj' e rfl).2
        simp at this
      · cases hb
  · rcases List.mem_append.mp hv with h | h
    · obtain ⟨u, hu, rfl⟩ := List.mem_map.mp h
      obtain ⟨⟨a1, a2⟩, a3⟩ := mem_cho.mp hu
      refine mem_cho.mpr ⟨⟨by simp [a1], fun x hx => ?_⟩, by rw [dot_snoc a1, a3]; omega⟩
      rcases List.mem_append.mp hx with hx | hx
      · exact a2 x hx
      · exact .inl (List.mem_singleton.mp hx)
    · split at h
      · obtain ⟨u, hu, rfl⟩ := List.mem_map.mp h
        obtain ⟨⟨a1, a2⟩, a3⟩ := mem_cho.mp hu
        refine mem_cho.mpr ⟨⟨by simp [a1], fun x hx => ?_⟩, by rw [dot_snoc a1, a3]; omega⟩
        rcases List.mem_append.mp hx with hx | hx
        · exact a2 x hx
        · exact .inr (List.mem_singleton.mp hx)
      · cases h
  · obtain ⟨⟨a1, a2⟩, a3⟩ := mem_cho.mp hv
    rcases List.eq_nil_or_concat v with rfl | ⟨u, b, rfl⟩
    · simp at a1
    · rw [List.concat_eq_append] at *
      have lu : u.length = ns.length := by simpa using a1
      rw [dot_snoc lu] at a3
      have zu : z01 u := fun x hx => a2 x (List.mem_append_left _ hx)
      have nn := dot_nn zu hn
      rcases a2 b (by simp) with rfl | rfl
      · exact List.mem_append_left _ (List.mem_map.mpr ⟨u, mem_cho.mpr ⟨⟨lu, zu⟩, by omega⟩, rfl⟩)
      · refine List.mem_append_right _ ?_
        rw [if_pos (by omega)]
        exact List.mem_map.mpr ⟨u, mem_cho.mpr ⟨⟨lu, zu⟩, by omega⟩, rfl⟩
/-- one turned over -/
def bentF (v : List Int) (j : Nat) : List Int := v.take j ++ [1 - v.getD j 0] ++ v.drop (j + 1)
theorem dot_bent : ∀ {v ns : List Int} {j : Nat}, v.length = ns.length → j < v.length → dotI (bentF v j) ns = dotI v ns + (1 - 2 * v.getD j 0) * ns.getD j 0
  | [], _, j, _, h => by simp at h
  | x :: v, [], j, h, _ => by simp at h
  | x :: v, n :: ns, 0, h, _ => by
    unfold bentF dotI
    simp only [List.take_zero, List.nil_append, List.getD_cons_zero, List.drop_succ_cons, List.drop_zero, List.cons_append, List.zipWith_cons_cons, List.sum_cons]
    have e1 : (1 - x) * n = n - x * n := by rw [Int.sub_mul]; omega
    have e2 : (1 - 2 * x) * n = n - 2 * (x * n) := by rw [Int.sub_mul, Int.mul_assoc]; omega
    omega
  | x :: v, n :: ns, j + 1, h, hj => by
    have ih := dot_bent (v := v) (ns := ns) (j := j) (by simpa using h) (by simpa using hj)
    unfold bentF dotI at *
    simp only [List.take_succ_cons, List.getD_cons_succ, List.drop_succ_cons, List.cons_append, List.zipWith_cons_cons, List.sum_cons] at *
    omega
theorem z_bent {v : List Int} {j : Nat} (z : z01 v) (hj : j < v.length) : z01 (bentF v j) := fun x hx => by
  unfold bentF at hx
  rcases List.mem_append.mp hx with h | h
  · rcases List.mem_append.mp h with h | h
    · exact z x (List.mem_of_mem_take h)
    · rw [List.mem_singleton.mp h]
      have : v.getD j 0 ∈ v := by rw [List.getD_eq_getElem?_getD, List.getElem?_eq_getElem hj]; exact List.getElem_mem _
      rcases z _ this with e | e <;> rw [e] <;> decide
  · exact z x (List.mem_of_mem_drop h)
/-! ### short, walked -/
theorem dot_sel : ∀ (ns v : List Int), z01 v → (((ns.zip v).filter fun p => decide (p.2 = 1)).map (·.1)).sum = dotI v ns
  | [], v, _ => by unfold dotI; simp
  | n :: ns, [], _ => rfl
  | n :: ns, x :: v, z => by
    have ih := dot_sel ns v fun y hy => z y (List.mem_cons_of_mem _ hy)
    unfold dotI at ih ⊢
    rw [List.zip_cons_cons, List.zipWith_cons_cons, List.sum_cons, ← ih]
    rcases z x List.mem_cons_self with rfl | rfl
    · rw [List.filter_cons_of_neg (by simp)]
      omega
    · rw [List.filter_cons_of_pos (by simp), List.map_cons, List.sum_cons]
      omega
theorem zip_ints {m m2 : Md} : ∀ a b : List Int, zipI m m2 (a.map D.int) (b.map D.int) = (a.zip b).map fun p => [(Md.dp, D.int p.1), (Md.dp, D.int p.2)]
  | [], b => rfl
  | x :: a, [] => rfl
  | x :: a, y :: b => by
    have := zip_ints (m := m) (m2 := m2) a b
    show _ :: zipI m m2 (a.map D.int) (b.map D.int) = _
    rw [this]
    rfl
theorem short_ok {ns v : List Int} {due : Int} (hn : ns.length ≤ 1000) (z : z01 v) : F_short [(.lk, .tup [lstI ns, .int due]), (.lk, lstI v)] = .ok (.dp, .int (due - dotI v ns)) [some (.lk, .tup [lstI ns, .int due]), some (.lk, lstI v)] := by
  refine wp_eq (w_short ?_)
  obtain ⟨TT, hTT⟩ : ∃ TT, TT = D.tup [lstI ns, .int due] := ⟨_, rfl⟩
  rw [← hTT]
  have fN : flat (lstI ns) = false := rfl
  refine wp_step (s := s_short_1) (ev' := [some (.lk, TT), some (.lk, lstI v), some (.lk, lstI ns), some (.dp, .int due), none, none]) (by rw [hTT]; generalize lstI ns = ND at *; generalize lstI v = VD at *; simp [s_short_1, fN]) ?_
  have lc := lc_pure (tgs := [4, 5]) (own := [4, 5]) (test := (liftB (pB (p2 gEq (pName 5) (pC (.int 1)))))) (elt := (capM (pName 4))) (ev := [some (.lk, TT), some (.lk, lstI v), some (.lk, lstI ns), some (.lk, .int due), none, none]) (fun p : Int × Int => [(Md.dp, D.int p.1), (Md.dp, D.int p.2)]) (fun p => decide (p.2 = 1)) (fun p => D.int p.1) (by simp) (ns.zip v) [] (by simp) (fun p _ => by generalize lstI ns = ND at *; generalize lstI v = VD at *; simp) (fun p _ _ => by generalize lstI ns = ND at *; generalize lstI v = VD at *; simp) (by simp) (by rw [List.length_nil, List.length_zip]; omega)
  rw [List.nil_append] at lc
  have e2 : ((ns.zip v).filter fun p => decide (p.2 = 1)).map (fun p => D.int p.1) = (((ns.zip v).filter fun p => decide (p.2 = 1)).map (·.1)).map D.int := by rw [List.map_map]; rfl
  rw [e2] at lc
  have sS := x_sum (ns := ((ns.zip v).filter fun p => decide (p.2 = 1)).map (·.1))
  rw [dot_sel ns v z] at sS
  have kz := zip_ints (m := .lk) (m2 := .lk) ns v
  refine wp_rt (r := (.dp, .int (due - dotI v ns))) (ev' := [some (.lk, TT), some (.lk, lstI v), some (.lk, lstI ns), some (.dp, .int due), none, none]) ?_ ⟨by simp, rfl, by simp⟩
  unfold lstI at lc ⊢
  generalize (((ns.zip v).filter fun p => decide (p.2 = 1)).map (·.1)).map D.int = SD at *
  generalize ns.map D.int = NN at *
  generalize v.map D.int = VV at *
  (try simp at lc)
  simp [s_short_2, kz, lc, sS]

/-! ### k36, plainly: rows of groups -/
def pwZ (g : Nat) : Int := (40 : Int) ^ g
def rowV (r : List Nat) : Int := (r.map pwZ).sum
def RowG (n : Nat) (r : List Nat) : Prop := (∃ g, g < n ∧ r = [g]) ∨ ∃ g l, g < n ∧ l < g ∧ r = [g, l]
def own (r : List Nat) : Nat := r.headD 0
def selR {α : Type} : List α → List Int → List α
  | r :: rs, x :: v => if x = 1 then r :: selR rs v else selR rs v
  | _, _ => []
def geo : Nat → Int
  | 0 => 0
  | n + 1 => geo n + pwZ n
theorem pw_pos (g : Nat) : 1 ≤ pwZ g := by
  unfold pwZ
  have : (0 : Int) < 40 ^ g := Int.pow_pos (by decide)
  omega
theorem pw_succ (g : Nat) : pwZ (g + 1) = pwZ g * 40 := Int.pow_succ _ _
theorem geo_39 : ∀ n, 39 * geo n = pwZ n - 1
  | 0 => rfl
  | n + 1 => by
    have := geo_39 n
    rw [pw_succ]
    show 39 * (geo n + pwZ n) = _
    omega
theorem geo_nn (n : Nat) : 0 ≤ geo n := by
  have := geo_39 n
  have := pw_pos n
  omega
theorem geo_split (h : Nat) : ∀ n, h < n → ∃ q : Int, geo n = q * pwZ h * 40 + pwZ h + geo h
  | 0, c => absurd c (Nat.not_lt_zero _)
  | n + 1, c => by
    by_cases e : h = n
    · subst e
      exact ⟨0, by show geo h + pwZ h = _; omega⟩
    · obtain ⟨q, hq⟩ := geo_split h n (by omega)
      obtain ⟨d, rfl⟩ : ∃ d, n = h + 1 + d := ⟨n - h - 1, by omega⟩
      refine ⟨q + 40 ^ d, ?_⟩
      have : pwZ (h + 1 + d) = 40 ^ d * pwZ h * 40 := by
        unfold pwZ
        rw [Int.pow_add, Int.pow_succ, Int.mul_comm _ (40 ^ d), Int.mul_assoc]
      show geo (h + 1 + d) + pwZ (h + 1 + d) = _
      rw [hq, this, Int.add_mul, Int.add_mul]
      omega
def loV (h : Nat) (m : List Nat) : Int := (m.map fun g => if g < h then pwZ g else 0).sum
def hiV (h : Nat) (m : List Nat) : Int := (m.map fun g => if h < g then (40 : Int) ^ (g - h - 1) else 0).sum
theorem splitV (h : Nat) : ∀ m : List Nat, (m.map pwZ).sum = hiV h m * pwZ h * 40 + (m.count h : Int) * pwZ h + loV h m
  | [] => by simp [hiV, loV]
  | g :: m => by
    have ih := splitV h m
    unfold hiV loV at ih ⊢
    simp only [List.map_cons, List.sum_cons, List.count_cons]
    rw [ih]
    rcases Nat.lt_trichotomy g h with c | c | c
    · have e1 : ¬ h < g := by omega
      have e2 : (g == h) = false := by simp; omega
      simp only [if_pos c, if_neg e1, e2]
      simp only [Int.zero_add, Nat.add_zero, Bool.false_eq_true, if_false]
      omega
    · subst c
      simp only [Nat.lt_irrefl, if_false, beq_self_eq_true, if_true, Int.zero_add]
      rw [show ((m.count g + 1 : Nat) : Int) = (m.count g : Int) + 1 from by omega, Int.add_mul ((m.count g : Nat) : Int), Int.one_mul]
      omega
    · have e1 : ¬ g < h := by omega
      have e2 : (g == h) = false := by simp; omega
      simp only [if_pos c, if_neg e1, e2]
      simp only [Int.zero_add, Nat.add_zero, Bool.false_eq_true, if_false]
      obtain ⟨d, rfl⟩ : ∃ d, g = h + 1 + d := ⟨g - h - 1, by omega⟩
      have e3 : h + 1 + d - h - 1 = d := by omega
      have e4 : pwZ (h + 1 + d) = 40 ^ d * pwZ h * 40 := by
        unfold pwZ
        rw [Int.pow_add, Int.pow_succ, Int.mul_comm _ (40 ^ d), Int.mul_assoc]
      rw [e3, e4, Int.add_mul, Int.add_mul]
      omega
theorem loV_app (h : Nat) (a b : List Nat) : loV h (a ++ b) = loV h a + loV h b := by simp [loV, List.sum_append]
theorem loV_nn (h : Nat) (m : List Nat) : 0 ≤ loV h m := sum_nn fun x hx => by
  obtain ⟨g, _, rfl⟩ := List.mem_map.mp hx
  have := pw_pos g
  split <;> omega
theorem hiV_zero {h : Nat} {m : List Nat} (hm : ∀ g ∈ m, g ≤ h) : hiV h m = 0 := by
  induction m with
  | nil => rfl
  | cons g m ih =>
    have h1 := hm g List.mem_cons_self
    have h2 := ih fun x hx => hm x (List.mem_cons_of_mem _ hx)
    unfold hiV at h2 ⊢
    rw [List.map_cons, List.sum_cons, h2, if_neg (by omega)]
    rfl
theorem geo_mono {a b : Nat} (h : a ≤ b) : geo a ≤ geo b := by
  induction b with
  | zero => obtain rfl : a = 0 := by omega
            exact Int.le_refl _
  | succ b ih =>
    by_cases e : a = b + 1
    · rw [e]; exact Int.le_refl _
    · have := ih (by omega)
      have := pw_pos b
      show _ ≤ geo b + pwZ b
      omega
theorem row_lo {n h : Nat} {r : List Nat} (hr : RowG n r) : loV h r ≤ geo h := by
  have g0 := geo_nn h
  have key : ∀ g, g < h → pwZ g + geo g ≤ geo h := fun g hg => by
    have := geo_mono (show g + 1 ≤ h from hg)
    have : geo (g + 1) = geo g + pwZ g := rfl
    omega
  have one : ∀ g, (if g < h then pwZ g else 0) ≤ geo h := fun g => by
    have := geo_nn g
    split
    · have := key g (by assumption)
      omega
    · exact g0
  rcases hr with ⟨g, _, rfl⟩ | ⟨g, l, _, hl, rfl⟩
  · have := one g
    unfold loV
    simp only [List.map_cons, List.map_nil, List.sum_cons, List.sum_nil]
    omega
  · unfold loV
    simp only [List.map_cons, List.map_nil, List.sum_cons, List.sum_nil]
    by_cases c : g < h
    · have h1 := key g c
      have h2 := geo_mono (show l + 1 ≤ g from hl)
      have h3 : geo (l + 1) = geo l + pwZ l := rfl
      have h4 := geo_nn l
      rw [if_pos c, if_pos (by omega)]
      omega
    · have := one l
      rw [if_neg c]
      omega
theorem row_cnt {n h : Nat} {r : List Nat} (hr : RowG n r) : r.count h ≤ 1 := by
  rcases hr with ⟨g, _, rfl⟩ | ⟨g, l, _, hl, rfl⟩
  · simp only [List.count_cons, List.count_nil]
    split <;> omega
  · simp only [List.count_cons, List.count_nil]
    by_cases c : (g == h) = true
    · have c2 : (l == h) = false := by simp at c ⊢; omega
      rw [if_pos c, c2]; simp
    · rw [if_neg c]; split <;> omega
theorem flat_lo {n h : Nat} : ∀ {L : List (List Nat)}, (∀ r ∈ L, RowG n r) → loV h L.flatten ≤ L.length * geo h
  | [], _ => by simp [loV]
  | r :: L, hr => by
    have h1 := row_lo (h := h) (hr r List.mem_cons_self)
    have h2 := flat_lo (h := h) (L := L) fun x hx => hr x (List.mem_cons_of_mem _ hx)
    rw [List.flatten_cons, loV_app, List.length_cons, show ((L.length + 1 : Nat) : Int) = (L.length : Int) + 1 from by omega, Int.add_mul, Int.one_mul]
    omega
theorem flat_cnt {n h : Nat} : ∀ {L : List (List Nat)}, (∀ r ∈ L, RowG n r) → L.flatten.count h ≤ L.length
  | [], _ => by simp
  | r :: L, hr => by
    have h1 := row_cnt (h := h) (hr r List.mem_cons_self)
    have h2 := flat_cnt (h := h) (L := L) fun x hx => hr x (List.mem_cons_of_mem _ hx)
    rw [List.flatten_cons, List.count_append, List.length_cons]
    omega
theorem flat_own {n h : Nat} : ∀ {L : List (List Nat)}, (∀ r ∈ L, RowG n r) → (L.map own).count h ≤ L.flatten.count h
  | [], _ => by simp
  | r :: L, hr => by
    have h2 := flat_own (h := h) (L := L) fun x hx => hr x (List.mem_cons_of_mem _ hx)
    rw [List.flatten_cons, List.count_append, List.map_cons, List.count_cons]
    have h1 : (if own r == h then 1 else 0) ≤ r.count h := by
      rcases hr r List.mem_cons_self with ⟨g, _, rfl⟩ | ⟨g, l, _, hl, rfl⟩
      · show (if g == h then 1 else 0) ≤ _
        simp only [List.count_cons, List.count_nil]; omega
      · show (if g == h then 1 else 0) ≤ _
        simp only [List.count_cons, List.count_nil]; omega
    omega
theorem sel_len {α : Type} : ∀ (rs : List α) (v : List Int), (selR rs v).length ≤ rs.length
  | [], v => by simp [selR]
  | r :: rs, [] => by simp [selR]
  | r :: rs, x :: v => by
    have := sel_len rs v
    unfold selR
    split <;> simp only [List.length_cons] <;> omega
theorem sel_mem {α : Type} : ∀ {rs : List α} {v : List Int} {r : α}, r ∈ selR rs v → r ∈ rs
  | [], v, r, h => by simp [selR] at h
  | _ :: rs, [], r, h => by simp [selR] at h
  | a :: rs, x :: v, r, h => by
    unfold selR at h
    split at h
    · rcases List.mem_cons.mp h with e | e
      · rw [e]; exact List.mem_cons_self
      · exact List.mem_cons_of_mem _ (sel_mem e)
    · exact List.mem_cons_of_mem _ (sel_mem h)
theorem sel_map {α β : Type} (f : α → β) : ∀ (rs : List α) (v : List Int), selR (rs.map f) v = (selR rs v).map f
  | [], v => by simp [selR]
  | _ :: rs, [] => by simp [selR]
  | a :: rs, x :: v => by
    have := sel_map f rs v
    simp only [List.map_cons, selR]
    split
    · rw [this, List.map_cons]
    · exact this
theorem sel_snoc {α : Type} : ∀ {rs : List α} {v : List Int} {r : α} {x : Int}, v.length = rs.length → selR (rs ++ [r]) (v ++ [x]) = selR rs v ++ if x = 1 then [r] else []
  | [], [], r, x, _ => by simp [selR]
  | _ :: rs, [], r, x, h => by cases h
  | [], _ :: v, r, x, h => by cases h
  | a :: rs, y :: v, r, x, h => by
    have := sel_snoc (rs := rs) (v := v) (r := r) (x := x) (by simpa using h)
    simp only [List.cons_append, selR, this]
    split <;> simp
theorem dot_selR : ∀ {rs : List (List Nat)} {v : List Int}, z01 v → dotI v (rs.map rowV) = (((selR rs v).flatten).map pwZ).sum
  | [], v, _ => by cases v <;> simp [selR, dotI]
  | _ :: rs, [], _ => by simp [selR, dotI]
  | a :: rs, x :: v, z => by
    have ih := dot_selR (rs := rs) (v := v) fun y hy => z y (List.mem_cons_of_mem _ hy)
    have e : dotI (x :: v) (List.map rowV (a :: rs)) = x * rowV a + dotI v (rs.map rowV) := by simp [dotI]
    have es : selR (a :: rs) (x :: v) = if x = 1 then a :: selR rs v else selR rs v := rfl
    rw [e, ih, es]
    generalize selR rs v = SR at *
    rcases z x List.mem_cons_self with rfl | rfl
    · simp
    · rw [if_pos rfl, List.flatten_cons, List.map_append, List.sum_append]
      unfold rowV
      omega
theorem nd_cnt : ∀ {m : List Nat}, (∀ h, m.count h ≤ 1) → m.Nodup
  | [], _ => List.nodup_nil
  | a :: m, h => by
    refine List.nodup_cons.mpr ⟨fun ha => ?_, nd_cnt fun x => ?_⟩
    · have h1 := h a
      rw [List.count_cons_self] at h1
      have := List.count_pos_iff.mpr ha
      omega
    · have h1 := h x
      rw [List.count_cons] at h1
      omega
theorem sum_flat (L : List (List Nat)) : (L.map rowV).sum = (L.flatten.map pwZ).sum := by
  induction L with
  | nil => rfl
  | cons r L ih =>
    rw [List.map_cons, List.sum_cons, ih, List.flatten_cons, List.map_append, List.sum_append]
    rfl
theorem row_le {n : Nat} {r : List Nat} (hr : RowG n r) : ∀ g ∈ r, g ≤ own r := by
  rcases hr with ⟨g, _, rfl⟩ | ⟨g, l, _, hl, rfl⟩
  · intro x hx; cases List.mem_singleton.mp hx; exact Nat.le_refl _
  · intro x hx
    show x ≤ g
    rcases List.mem_cons.mp hx with rfl | hx
    · exact Nat.le_refl _
    · cases List.mem_singleton.mp hx; omega
theorem row_lt {n : Nat} {r : List Nat} (hr : RowG n r) : ∀ g ∈ r, g < n := by
  rcases hr with ⟨g, hg, rfl⟩ | ⟨g, l, hg, hl, rfl⟩
  · intro x hx; cases List.mem_singleton.mp hx; exact hg
  · intro x hx
    rcases List.mem_cons.mp hx with rfl | hx
    · exact hg
    · cases List.mem_singleton.mp hx; omega
/-- no group is taken twice on the way -/
theorem one_each {n : Nat} {rs : List (List Nat)} (hr : ∀ r ∈ rs, RowG n r) (hl : rs.length ≤ 32) (hf : (rs.map own).Pairwise (· ≥ ·)) {k : Nat} {v : List Int} (lv : v.length = k) (zv : z01 v)
    (h0 : 0 ≤ geo n - dotI v ((rs.map rowV).take k)) (h1 : geo n - dotI v ((rs.map rowV).take k) ≤ ((rs.map rowV).drop k).sum) : (selR ((rs.take k).map own) v).Nodup := by
  refine nd_cnt fun h => ?_
  rw [sel_map]
  refine Nat.le_of_not_lt fun c2 => ?_
  have hrt : ∀ r ∈ rs.take k, RowG n r := fun r hh => hr r (List.mem_of_mem_take hh)
  have hrd : ∀ r ∈ rs.drop k, RowG n r := fun r hh => hr r (List.mem_of_mem_drop hh)
  have hrs : ∀ r ∈ selR (rs.take k) v, RowG n r := fun r hh => hrt r (sel_mem hh)
  have cM := flat_own (h := h) hrs
  have cM2 := flat_cnt (h := h) hrs
  have cR2 := flat_cnt (h := h) hrd
  have lM := flat_lo (h := h) hrs
  have lR := flat_lo (h := h) hrd
  have ls := sel_len (rs.take k) v
  have ll : (rs.take k).length + (rs.drop k).length = rs.length := by rw [← List.length_append, List.take_append_drop]
  rw [← List.map_take, dot_selR zv] at h0 h1
  rw [← List.map_drop, sum_flat] at h1
  have oh : ∃ r ∈ selR (rs.take k) v, own r = h := by
    have : 0 < ((selR (rs.take k) v).map own).count h := by omega
    obtain ⟨r, p1, p2⟩ := List.mem_map.mp (List.count_pos_iff.mp this)
    exact ⟨r, p1, p2⟩
  obtain ⟨r, rm, ro⟩ := oh
  have hn : h < n := by
    rw [← ro]
    refine row_lt (hrs r rm) _ ?_
    rcases hrs r rm with ⟨g, _, rfl⟩ | ⟨g, l, _, _, rfl⟩ <;> exact List.mem_cons_self
  have rest : ∀ g ∈ (rs.drop k).flatten, g ≤ h := fun g hg => by
    obtain ⟨q, hq, hgq⟩ := List.mem_flatten.mp hg
    have a1 := row_le (hrd q hq) g hgq
    rw [← List.take_append_drop k rs, List.map_append, List.pairwise_append] at hf
    have a2 := hf.2.2 (own r) (List.mem_map.mpr ⟨r, sel_mem rm, rfl⟩) (own q) (List.mem_map.mpr ⟨q, hq, rfl⟩)
    omega
  have sM := splitV h (selR (rs.take k) v).flatten
  have sR := splitV h (rs.drop k).flatten
  rw [hiV_zero rest] at sR
  obtain ⟨q, hq⟩ := geo_split h n hn
  have P := pw_pos h
  have D := geo_39 h
  have n1 := loV_nn h (selR (rs.take k) v).flatten
  rw [sM, hq] at h0 h1
  rw [sR] at h1
  generalize loV h (selR (rs.take k) v).flatten = LM at *
  generalize loV h (rs.drop k).flatten = LR at *
  generalize hiV h (selR (rs.take k) v).flatten = HM at *
  generalize (selR (rs.take k) v).flatten.count h = CM at *
  generalize (rs.drop k).flatten.count h = CR at *
  generalize pwZ h = p at *
  generalize geo h = d at *
  have b1 : LM + LR ≤ 32 * d := by
    have : (((selR (rs.take k) v).length : Int) + ((rs.drop k).length : Int)) * d ≤ 32 * d := Int.mul_le_mul_of_nonneg_right (by omega) (by omega)
    rw [Int.add_mul] at this
    omega
  have b2 : (CM : Int) * p + CR * p ≤ 32 * p := by
    rw [← Int.add_mul]
    exact Int.mul_le_mul_of_nonneg_right (by omega) (by omega)
  have b3 : 2 * p ≤ (CM : Int) * p := Int.mul_le_mul_of_nonneg_right (by omega) (by omega)
  have eT : (q - HM) * p = q * p - HM * p := Int.sub_mul _ _ _
  rcases Int.lt_or_le 0 (q - HM) with t | t
  · have b4 : 1 * p ≤ (q - HM) * p := Int.mul_le_mul_of_nonneg_right (by omega) (by omega)
    simp only [Int.zero_mul] at h1
    omega
  · have b4 : (q - HM) * p ≤ 0 * p := Int.mul_le_mul_of_nonneg_right t (by omega)
    omega
/-- met: each group once -/
theorem met_iff {n : Nat} {L : List (List Nat)} (hr : ∀ r ∈ L, RowG n r) (hl : L.length ≤ 32) : (L.flatten.map pwZ).sum = geo n ↔ L.flatten.Nodup ∧ L.flatten.length = n := by
  have lt : ∀ g ∈ L.flatten, g < n := fun g hg => by
    obtain ⟨q, hq, hgq⟩ := List.mem_flatten.mp hg
    exact row_lt (hr q hq) g hgq
  have geoR : ((List.range n).map pwZ).sum = geo n := by
    clear hr lt
    induction n with
    | zero => rfl
    | succ n ih =>
      rw [List.range_succ, List.map_append, List.sum_append, ih]
      show _ = geo n + pwZ n
      simp
  constructor
  · intro e
    have c1 : ∀ h, h < n → L.flatten.count h = 1 := fun h hn => by
      have cM2 := flat_cnt (h := h) hr
      have lM := flat_lo (h := h) hr
      have sM := splitV h L.flatten
      obtain ⟨q, hq⟩ := geo_split h n hn
      have P := pw_pos h
      have D := geo_39 h
      have n1 := loV_nn h L.flatten
      rw [sM, hq] at e
      generalize loV h L.flatten = LM at *
      generalize hiV h L.flatten = HM at *
      generalize L.flatten.count h = CM at *
      generalize pwZ h = p at *
      generalize geo h = d at *
      have b1 : LM ≤ 32 * d := by
        have : (L.length : Int) * d ≤ 32 * d := Int.mul_le_mul_of_nonneg_right (by omega) (by omega)
        omega
      have b2 : (CM : Int) * p ≤ 32 * p := Int.mul_le_mul_of_nonneg_right (by omega) (by omega)
      have b3 : 0 ≤ (CM : Int) * p := Int.mul_nonneg (by omega) (by omega)
      have eT : (q - HM) * p = q * p - HM * p := Int.sub_mul _ _ _
      have q0 : q - HM = 0 := by
        rcases Int.lt_trichotomy (q - HM) 0 with t | t | t
        · have b4 : (q - HM) * p ≤ (-1) * p := Int.mul_le_mul_of_nonneg_right (by omega) (by omega)
          omega
        · exact t
        · have b4 : 1 * p ≤ (q - HM) * p := Int.mul_le_mul_of_nonneg_right (by omega) (by omega)
          omega
      rw [q0] at eT
      rcases Nat.lt_trichotomy CM 1 with t | t | t
      · obtain rfl : CM = 0 := by omega
        simp at *
        omega
      · exact t
      · have b5 : 2 * p ≤ (CM : Int) * p := Int.mul_le_mul_of_nonneg_right (by omega) (by omega)
        omega
    have pm : L.flatten.Perm (List.range n) := List.perm_iff_count.mpr fun h => by
      by_cases hn : h < n
      · rw [c1 h hn, List.count_range, if_pos hn]
      · rw [List.count_range, if_neg hn]
        exact List.count_eq_zero.mpr fun hh => hn (lt h hh)
    exact ⟨pm.nodup_iff.mpr List.nodup_range, by rw [pm.length_eq, List.length_range]⟩
  · rintro ⟨nd, ln⟩
    have pm : L.flatten.Perm (List.range n) := perm_nd nd List.nodup_range fun x => ⟨fun hx => List.mem_range.mpr (lt x hx), fun hx => by
      refine Classical.byContradiction fun no => ?_
      have := nd_len (ds := (List.range n).erase x) nd fun y hy => (List.mem_erase_of_ne fun e => no (by rw [← e]; exact hy)).mpr (List.mem_range.mpr (lt y hy))
      rw [List.length_erase_of_mem hx, List.length_range] at this
      have := List.mem_range.mp hx
      omega⟩
    rw [← geoR]
    exact perm_sum (pm.map _)
/-! ### k36: how many there may be on the way -/
def enC : List Nat → List Nat → List (List Int)
  | [], _ => [[]]
  | o :: os, A => (enC os A).map (0 :: ·) ++ if o ∈ A then [] else (enC os (o :: A)).map (1 :: ·)
theorem mem_enC : ∀ {os A : List Nat} {v : List Int}, v.length = os.length → z01 v → (selR os v).Nodup → (∀ x ∈ selR os v, x ∉ A) → v ∈ enC os A
  | [], A, v, l, _, _, _ => by
    obtain rfl := List.length_eq_zero_iff.mp l
    exact List.mem_singleton.mpr rfl
  | o :: os, A, [], l, _, _, _ => by cases l
  | o :: os, A, x :: v, l, z, nd, ha => by
    have zv : z01 v := fun y hy => z y (List.mem_cons_of_mem _ hy)
    have lv : v.length = os.length := by simpa using l
    have es : selR (o :: os) (x :: v) = if x = 1 then o :: selR os v else selR os v := rfl
    rw [es] at nd ha
    unfold enC
    rcases z x List.mem_cons_self with rfl | rfl
    · refine List.mem_append_left _ (List.mem_map.mpr ⟨v, mem_enC lv zv ?_ ?_, rfl⟩)
      · simpa using nd
      · simpa using ha
    · rw [if_pos rfl] at nd ha
      obtain ⟨n1, n2⟩ := List.nodup_cons.mp nd
      rw [if_neg (ha o List.mem_cons_self)]
      refine List.mem_append_right _ (List.mem_map.mpr ⟨v, mem_enC lv zv n2 (fun y hy => ?_), rfl⟩)
      rw [List.mem_cons]
      rintro (rfl | h)
      · exact n1 hy
      · exact ha y (List.mem_cons_of_mem _ hy) h
def prodF (f : Nat → Nat) : Nat → Nat
  | 0 => 1
  | n + 1 => prodF f n * f n
theorem prod_congr {f g : Nat → Nat} : ∀ {n : Nat}, (∀ i, i < n → f i = g i) → prodF f n = prodF g n
  | 0, _ => rfl
  | n + 1, h => by
    have := prod_congr (f := f) (g := g) (n := n) fun i hi => h i (by omega)
    show prodF f n * f n = prodF g n * g n
    rw [this, h n (by omega)]
theorem prod_add {f g h : Nat → Nat} {o : Nat} (hi : ∀ i, i ≠ o → f i = h i ∧ g i = h i) (ho : h o = f o + g o) : ∀ {n : Nat}, o < n → prodF h n = prodF f n + prodF g n
  | 0, c => absurd c (Nat.not_lt_zero _)
  | n + 1, c => by
    show prodF h n * h n = prodF f n * f n + prodF g n * g n
    by_cases e : o = n
    · subst e
      rw [prod_congr (f := f) (g := h) fun i q => (hi i (by omega)).1, prod_congr (f := g) (g := h) fun i q => (hi i (by omega)).2, ho, Nat.mul_add]
    · rw [prod_add hi ho (n := n) (by omega), (hi n (by omega)).1, (hi n (by omega)).2, Nat.add_mul]
theorem prod_le {f : Nat → Nat} : ∀ {n : Nat}, (∀ i, i < n → f i ≤ 5) → prodF f n ≤ 5 ^ n
  | 0, _ => Nat.le_refl _
  | n + 1, h => by
    have := prod_le (f := f) (n := n) fun i hi => h i (by omega)
    rw [Nat.pow_succ]
    exact Nat.mul_le_mul this (h n (by omega))
def facC (os A : List Nat) (h : Nat) : Nat := if h ∈ A then 1 else 1 + os.count h
theorem enC_len {n : Nat} : ∀ {os A : List Nat}, (∀ o ∈ os, o < n) → (enC os A).length ≤ prodF (facC os A) n
  | [], A, _ => by
    have : prodF (facC [] A) n = 1 := by
      have : ∀ n, prodF (facC [] A) n = 1 := fun n => by
        induction n with
        | zero => rfl
        | succ n ih =>
          show prodF (facC [] A) n * facC [] A n = 1
          rw [ih]
          unfold facC
          simp
      exact this n
    rw [this]
    exact Nat.le_refl _
  | o :: os, A, h => by
    have h1 := enC_len (n := n) (os := os) (A := A) fun x hx => h x (List.mem_cons_of_mem _ hx)
    have h2 := enC_len (n := n) (os := os) (A := o :: A) fun x hx => h x (List.mem_cons_of_mem _ hx)
    unfold enC
    rw [List.length_append, List.length_map]
    by_cases c : o ∈ A
    · rw [if_pos c]
      have : prodF (facC (o :: os) A) n = prodF (facC os A) n := prod_congr fun i _ => by
        unfold facC
        split
        · rfl
        · rename_i ni
          rw [List.count_cons_of_ne]
          intro e
          exact ni (e ▸ c)
      rw [this]
      simpa using h1
    · rw [if_neg c, List.length_map]
      have : prodF (facC (o :: os) A) n = prodF (facC os A) n + prodF (facC os (o :: A)) n := prod_add (o := o) (fun i hi => by
        unfold facC
        have e : i ∈ o :: A ↔ i ∈ A := by rw [List.mem_cons]; exact ⟨fun h => h.resolve_left hi, .inr⟩
        simp only [e]
        rw [List.count_cons_of_ne (Ne.symm hi)]
        exact ⟨rfl, rfl⟩) (by
        unfold facC
        rw [if_neg c, if_neg c, if_pos List.mem_cons_self, List.count_cons_self]
        omega) (h o List.mem_cons_self)
      rw [this]
      omega
theorem cnt_le {n : Nat} {os : List Nat} {L : List (List Int)} (h8 : n ≤ 8) (ho : ∀ o ∈ os, o < n) (hc : ∀ h, os.count h ≤ 4) (nd : L.Nodup) (hL : ∀ v ∈ L, v.length = os.length ∧ z01 v ∧ (selR os v).Nodup) : L.length ≤ 400000 := by
  have h1 := nd_len (ds := enC os []) nd fun v hv => mem_enC (hL v hv).1 (hL v hv).2.1 (hL v hv).2.2 (fun _ _ h => by cases h)
  have h2 := enC_len (n := n) (os := os) (A := []) ho
  have h3 : prodF (facC os []) n ≤ 5 ^ n := prod_le fun i _ => by
    unfold facC
    rw [if_neg (by simp)]
    have := hc i
    omega
  have h4 : 5 ^ n ≤ 5 ^ 8 := Nat.pow_le_pow_right (by decide) h8
  have h5 : (5 : Nat) ^ 8 = 390625 := by decide
  omega
theorem cnt_take {os : List Nat} {k : Nat} (hc : ∀ h, os.count h ≤ 4) : ∀ h, (os.take k).count h ≤ 4 := fun h => Nat.le_trans ((List.take_sublist k os).count_le h) (hc h)
/-! ### choices of such numbers -/
theorem own_row {n : Nat} {r : List Nat} (hr : RowG n r) : pwZ (own r) ≤ rowV r ∧ rowV r < pwZ (own r + 1) := by
  have e := fun g => pw_succ g
  rcases hr with ⟨g, hg, rfl⟩ | ⟨g, l, hg, hl, rfl⟩
  · show pwZ g ≤ rowV [g] ∧ rowV [g] < pwZ (g + 1)
    have := pw_pos g
    have := e g
    simp only [rowV, List.map_cons, List.map_nil, List.sum_cons, List.sum_nil]
    omega
  · show pwZ g ≤ rowV [g, l] ∧ rowV [g, l] < pwZ (g + 1)
    have h1 := pw_pos l
    have h2 := e g
    have h3 := geo_39 g
    have h4 := geo_39 (l + 1)
    have h5 := geo_mono (show l + 1 ≤ g from hl)
    have h6 := e l
    simp only [rowV, List.map_cons, List.map_nil, List.sum_cons, List.sum_nil]
    omega
theorem pw_mono {a b : Nat} (h : a ≤ b) : pwZ a ≤ pwZ b := by
  have h1 := geo_39 a
  have h2 := geo_39 b
  have := geo_mono h
  omega
theorem own_fall {n : Nat} {r s : List Nat} (hr : RowG n r) (hs : RowG n s) (h : rowV s ≤ rowV r) : own s ≤ own r := by
  have h1 := own_row hr
  have h2 := own_row hs
  refine Nat.le_of_not_lt fun c => ?_
  have := pw_mono (show own r + 1 ≤ own s from c)
  omega
theorem gath_map (f : List Nat → Int) {rs : List (List Nat)} {o : List Int} (ho : ∀ x ∈ o, 0 ≤ x ∧ x < rs.length) : gath o (rs.map f) = (o.map fun x => rs.getD x.toNat []).map f := by
  unfold gath
  rw [List.map_map]
  refine List.map_congr_left fun x hx => ?_
  have := ho x hx
  have h2 : x.toNat < rs.length := by omega
  show (rs.map f).getD x.toNat 0 = f (rs.getD x.toNat [])
  rw [List.getD_eq_getElem?_getD, List.getD_eq_getElem?_getD, List.getElem?_map, List.getElem?_eq_getElem h2]
  rfl

theorem lsrt_fall (ns : List Int) : (gath (lsrt ns) ns).Pairwise (· ≥ ·) := by
  have h := List.pairwise_mergeSort (le := fun a b : Int => decide (0 - ns.getD a.toNat 0 ≤ 0 - ns.getD b.toNat 0)) (fun a b c h1 h2 => by simp only [decide_eq_true_eq] at *; omega) (fun a b => by
    simp only [Bool.or_eq_true, decide_eq_true_eq]
    omega) ((List.range ns.length).map fun i : Nat => (i : Int))
  have e : lsrt ns = ((List.range ns.length).map fun i : Nat => (i : Int)).mergeSort fun a b : Int => decide (0 - ns.getD a.toNat 0 ≤ 0 - ns.getD b.toNat 0) := by
    unfold lsrt
    rw [PySem.W.dataLe_int fun x : Int => 0 - ns.getD x.toNat 0]
  unfold gath
  rw [List.pairwise_map, e]
  refine h.imp fun {a b} hab => ?_
  have := of_decide_eq_true hab
  omega
theorem hB_ok {n : Nat} {rs : List (List Nat)} (h8 : n ≤ 8) (hr : ∀ r ∈ rs, RowG n r) (hl : rs.length ≤ 32) (hc : ∀ h, (rs.map own).count h ≤ 4) :
    ∀ k, k ≤ (rs.map rowV).length → (bgF (gath (lsrt (rs.map rowV)) (rs.map rowV)) (geo n) k).length ≤ 1000000 := fun k hk => by
  have ip := lsrt_perm (rs.map rowV)
  have fall := lsrt_fall (rs.map rowV)
  have io : ∀ x ∈ lsrt (rs.map rowV), 0 ≤ x ∧ x < rs.length := fun x hx => by
    have := ip.2.2 x hx
    rw [List.length_map] at this
    exact this
  have lo := ip.1
  have gm := gath_map rowV io
  rw [gm] at fall ⊢
  have pr : ((lsrt (rs.map rowV)).map fun x => rs.getD x.toNat []).Perm rs := by
    have p1 := (perm_rng ip).map fun x => rs.getD x.toNat []
    have e : (rngZ (rs.map rowV).length).map (fun x => rs.getD x.toNat []) = rs := by
      unfold rngZ
      rw [List.map_map, List.length_map]
      refine List.ext_getElem (by simp) fun i h1 h2 => ?_
      simp [List.getElem?_eq_getElem h2]
    rw [e] at p1
    exact p1
  generalize (lsrt (rs.map rowV)).map (fun x => rs.getD x.toNat []) = qs at *
  have hq : ∀ r ∈ qs, RowG n r := fun r h => hr r (pr.mem_iff.mp h)
  have lq : qs.length = rs.length := pr.length_eq
  have hcq : ∀ h, (qs.map own).count h ≤ 4 := fun h => by rw [(pr.map own).count_eq]; exact hc h
  have fq : (qs.map own).Pairwise (· ≥ ·) := by
    rw [List.pairwise_map] at fall ⊢
    exact fall.imp_of_mem fun {a b} ha hb h => own_fall (hq a ha) (hq b hb) h
  have nnf : ∀ x ∈ qs.map rowV, 0 ≤ x := fun x hx => by
    obtain ⟨r, hrr, rfl⟩ := List.mem_map.mp hx
    have := own_row (hq r hrr)
    have := pw_pos (own r)
    omega
  rw [List.length_map] at hk
  have nd := bg_nd (qs.map rowV) (geo n) k
  have le := cnt_le (n := n) (os := (qs.map own).take k) (L := (bgF (qs.map rowV) (geo n) k).map (·.2)) h8 (fun o ho => by
    obtain ⟨r, hrr, rfl⟩ := List.mem_map.mp (List.mem_of_mem_take ho)
    refine row_lt (hq r hrr) _ ?_
    rcases hq r hrr with ⟨g, _, rfl⟩ | ⟨g, l, _, _, rfl⟩ <;> exact List.mem_cons_self) (cnt_take hcq) nd (fun v hv => by
    obtain ⟨p, hp, rfl⟩ := List.mem_map.mp hv
    obtain ⟨a1, a2, a3, a4, a5⟩ := (mem_bg nnf (geo_nn n) k (by rw [List.length_map]; omega) p).mp hp
    rw [a3] at a4 a5
    refine ⟨by rw [a1, List.length_take, List.length_map]; omega, a2, ?_⟩
    rw [← List.map_take]
    exact one_each hq (by omega) fq a1 a2 a4 a5)
  rw [List.length_map] at le
  exact Nat.le_trans le (by decide)
/-! ### k36: gone through by groups -/
def goS (going : List (List Int × List Nat)) (row : List Nat) : List (List Int × List Nat) := going.flatMap fun p => [(p.1 ++ [0], p.2)] ++ if ∀ g ∈ row, g ∉ p.2 then [(p.1 ++ [1], p.2 ++ row)] else []
def goK (rs : List (List Nat)) : Nat → List (List Int × List Nat)
  | 0 => [([], [])]
  | k + 1 => goS (goK rs k) (rs.getD k [])
theorem mem_goK {n : Nat} {rs : List (List Nat)} (hr : ∀ r ∈ rs, RowG n r) : ∀ (k : Nat), k ≤ rs.length → ∀ p : List Int × List Nat, p ∈ goK rs k ↔ p.1.length = k ∧ z01 p.1 ∧ p.2 = (selR (rs.take k) p.1).flatten ∧ p.2.Nodup
  | 0, _, p => by
    obtain ⟨v, m⟩ := p
    show _ ∈ [([], [])] ↔ _
    rw [List.mem_singleton]
    constructor
    · intro h
      cases h
      exact ⟨rfl, fun x hx => (nomatch hx), rfl, List.nodup_nil⟩
    · rintro ⟨h1, _, h3, _⟩
      dsimp only at *
      obtain rfl := List.length_eq_zero_iff.mp h1
      rw [h3]
      rfl
  | k + 1, hk, p => by
    have ih := mem_goK hr k (by omega)
    have hg : rs[k]? = some (rs.getD k []) := by rw [List.getElem?_eq_getElem (by omega), List.getD_eq_getElem?_getD, List.getElem?_eq_getElem (by omega)]; rfl
    have ht : rs.take (k + 1) = rs.take k ++ [rs.getD k []] := take_get hg
    have hrow := hr _ (List.mem_of_getElem? hg)
    have ndr : (rs.getD k []).Nodup := nd_cnt fun h => row_cnt hrow
    show p ∈ goS _ _ ↔ _
    unfold goS
    rw [List.mem_flatMap, ht]
    generalize rs.getD k [] = row at *
    constructor
    · rintro ⟨q, hq, h⟩
      obtain ⟨a1, a2, a3, a4⟩ := (ih q).mp hq
      have hl : q.1.length = (rs.take k).length := by rw [a1, List.length_take]; omega
      rcases List.mem_append.mp h with h | h
      · cases List.mem_singleton.mp h
        refine ⟨by simp [a1], fun x hx => ?_, ?_, a4⟩
        · rcases List.mem_append.mp hx with hx | hx
          · exact a2 x hx
          · exact .inl (List.mem_singleton.mp hx)
        · dsimp only
          rw [sel_snoc hl, if_neg (by decide), List.append_nil]
          exact a3
      · split at h
        · rename_i c
          cases List.mem_singleton.mp h
          refine ⟨by simp [a1], fun x hx => ?_, ?_, ?_⟩
          · rcases List.mem_append.mp hx with hx | hx
            · exact a2 x hx
            · exact .inr (List.mem_singleton.mp hx)
          · dsimp only
            rw [sel_snoc hl, if_pos rfl, List.flatten_append, ← a3]
            simp
          · dsimp only
            exact List.nodup_append.mpr ⟨a4, ndr, fun a ha b hb e => c b hb (e ▸ ha)⟩
        · cases h
    · rintro ⟨a1, a2, a3, a4⟩
      obtain ⟨t, m⟩ := p
      dsimp only at *
      rcases List.eq_nil_or_concat t with rfl | ⟨u, b, rfl⟩
      · simp at a1
      · rw [List.concat_eq_append] at *
        have lu : u.length = k := by simpa using a1
        have hl : u.length = (rs.take k).length := by rw [lu, List.length_take]; omega
        have zu : z01 u := fun x hx => a2 x (List.mem_append_left _ hx)
        rw [sel_snoc hl] at a3
        rcases a2 b (by simp) with rfl | rfl
        · rw [if_neg (by decide), List.append_nil] at a3
          exact ⟨(u, m), (ih _).mpr ⟨lu, zu, a3, a4⟩, List.mem_append_left _ (List.mem_singleton.mpr rfl)⟩
        · rw [if_pos rfl, List.flatten_append] at a3
          have e : ([row] : List (List Nat)).flatten = row := by simp
          rw [e] at a3
          rw [a3] at a4 ⊢
          obtain ⟨n1, n2, n3⟩ := List.nodup_append.mp a4
          refine ⟨(u, (selR (rs.take k) u).flatten), (ih _).mpr ⟨lu, zu, rfl, n1⟩, List.mem_append_right _ ?_⟩
          dsimp only
          rw [if_pos fun g hg hh => n3 g hh g hg rfl]
          exact List.mem_singleton.mpr rfl
theorem goK_nd (rs : List (List Nat)) : ∀ k, ((goK rs k).map (·.1)).Nodup
  | 0 => by show ([[]] : List (List Int)).Nodup; simp
  | k + 1 => by
    have ih := goK_nd rs k
    rw [List.Nodup, List.pairwise_map] at ih ⊢
    show (goS _ _).Pairwise _
    unfold goS
    rw [List.pairwise_flatMap]
    refine ⟨fun p _ => ?_, ih.imp fun {p q} h x hx y hy e => ?_⟩
    · split <;> simp
    · have hx2 : ∃ b, x.1 = p.1 ++ [b] := by
        rcases List.mem_append.mp hx with z | z
        · rw [List.mem_singleton.mp z]; exact ⟨_, rfl⟩
        · split at z
          · rw [List.mem_singleton.mp z]; exact ⟨_, rfl⟩
          · cases z
      have hy2 : ∃ b, y.1 = q.1 ++ [b] := by
        rcases List.mem_append.mp hy with z | z
        · rw [List.mem_singleton.mp z]; exact ⟨_, rfl⟩
        · split at z
          · rw [List.mem_singleton.mp z]; exact ⟨_, rfl⟩
          · cases z
      obtain ⟨b, e1⟩ := hx2
      obtain ⟨c, e2⟩ := hy2
      rw [e1, e2] at e
      exact h (List.append_inj' e rfl).1
theorem goK_len {n : Nat} {rs : List (List Nat)} (h8 : n ≤ 8) (hr : ∀ r ∈ rs, RowG n r) (hc : ∀ h, (rs.map own).count h ≤ 4) {k : Nat} (hk : k ≤ rs.length) : (goK rs k).length ≤ 400000 := by
  have le := cnt_le (n := n) (os := (rs.map own).take k) (L := (goK rs k).map (·.1)) h8 (fun o ho => by
    obtain ⟨r, hrr, rfl⟩ := List.mem_map.mp (List.mem_of_mem_take ho)
    refine row_lt (hr r hrr) _ ?_
    rcases hr r hrr with ⟨g, _, rfl⟩ | ⟨g, l, _, _, rfl⟩ <;> exact List.mem_cons_self) (cnt_take hc) (goK_nd rs k) (fun v hv => by
    obtain ⟨p, hp, rfl⟩ := List.mem_map.mp hv
    obtain ⟨a1, a2, a3, a4⟩ := (mem_goK hr k hk p).mp hp
    refine ⟨by rw [a1, List.length_take, List.length_map]; omega, a2, ?_⟩
    rw [← List.map_take, sel_map]
    refine nd_cnt fun h => ?_
    have h1 := flat_own (h := h) (L := selR (rs.take k) p.1) fun r hh => hr r (List.mem_of_mem_take (sel_mem hh))
    rw [← a3] at h1
    have h2 := List.nodup_iff_count.mp a4 h
    omega)
  rw [List.length_map] at le
  exact le
theorem goK_cho {n : Nat} {rs : List (List Nat)} (hr : ∀ r ∈ rs, RowG n r) (hl : rs.length ≤ 32) : srtI (((goK rs rs.length).filter fun p => decide (p.2.length = n)).map (·.1)) = choF (rs.map rowV) (geo n) := by
  refine srt_to ?_ fun v => ?_
  · exact (goK_nd rs rs.length).sublist (List.filter_sublist.map _)
  · rw [mem_cho, List.length_map, List.mem_map]
    constructor
    · rintro ⟨p, hp, rfl⟩
      obtain ⟨h1, h2⟩ := List.mem_filter.mp hp
      obtain ⟨a1, a2, a3, a4⟩ := (mem_goK hr rs.length (Nat.le_refl _) p).mp h1
      rw [List.take_length] at a3
      refine ⟨⟨a1, a2⟩, ?_⟩
      rw [dot_selR a2]
      have hs : ∀ r ∈ selR rs p.1, RowG n r := fun r hh => hr r (sel_mem hh)
      have ls := sel_len rs p.1
      refine (met_iff hs (by omega)).mpr ?_
      rw [← a3]
      exact ⟨a4, by simpa using h2⟩
    · rintro ⟨⟨a1, a2⟩, hd⟩
      rw [dot_selR a2] at hd
      have hs : ∀ r ∈ selR rs v, RowG n r := fun r hh => hr r (sel_mem hh)
      have ls := sel_len rs v
      obtain ⟨m1, m2⟩ := (met_iff hs (by omega)).mp hd
      exact ⟨(v, (selR rs v).flatten), List.mem_filter.mpr ⟨(mem_goK hr rs.length (Nat.le_refl _) _).mpr ⟨a1, a2, by rw [List.take_length], m1⟩, by simpa using m2⟩, rfl⟩
/-! ### k36: groups and numbers drawn -/
def natI (r : List Nat) : List Int := r.map fun g : Nat => (g : Int)
theorem groups_ok (ns : List Int) : ∃ (gs : List Nat) (k' : Int), 0 ≤ k' ∧ k' ≤ 100 ∧ 1 ≤ gs.length ∧ gs.length ≤ 8 ∧ (∀ c ∈ gs, c ≤ 4) ∧ F__law_groups [penD ns 0] = .ok (.dp, lstI (natI gs)) [some (penD ns k')] := by
  suffices hh : (F__law_groups [penD ns 0]).wp (fun r fs => ∃ (gs : List Nat) (k' : Int), 0 ≤ k' ∧ k' ≤ 100 ∧ 1 ≤ gs.length ∧ gs.length ≤ 8 ∧ (∀ c ∈ gs, c ≤ 4) ∧ r = (.dp, lstI (natI gs)) ∧ fs = [some (penD ns k')]) noX by
    obtain ⟨r, fs, h1, gs, k', p1, p2, p3, p4, p5, rfl, rfl⟩ := wp_ok hh
    exact ⟨gs, k', p1, p2, p3, p4, p5, h1⟩
  have tk := fun (k most : Int) (h0 : 0 ≤ k) (h1 : k < 100000) (h2 : 0 < most) => pen_take ns k most h0 (by omega) h2
  have dp := fun (k most : Int) (h2 : 0 < most) => drawn_pos (ns := ns) (k := k) (most := most) h2
  have dl := fun (k most : Int) (h2 : 0 < most) => drawn_lt (ns := ns) (k := k) (most := most) h2
  generalize hdr : (fun k most => drawn ns k most) = dr at *
  have hdr : ∀ k most, drawn ns k most = dr k most := fun k most => congrFun (congrFun hdr k) most
  simp only [hdr] at tk dp dl
  obtain ⟨PEN, hPEN⟩ : ∃ PEN : Int → MD, ∀ q, PEN q = penD ns q := ⟨fun q => penD ns q, fun _ => rfl⟩
  have pn : ∀ q, ((PEN q).1 = Md.lk) = False := fun q => by rw [hPEN]; simp
  have pp : ∀ q, put1 (some (PEN q)) = some (PEN q) := fun q => by rw [hPEN]; rfl
  simp only [← hPEN] at tk ⊢
  refine w__law_groups ?_
  refine wp_step (s := s_law_groups_1) (ev' := [some (PEN 0), some (.dp, .lst ((natI []).map D.int)), none, none, none]) (by simp [s_law_groups_1, natI]) ?_
  refine wp_step (s := s_law_groups_2) (ev' := [some (PEN 0), some (.dp, .lst ((natI []).map D.int)), some (.dp, .int 1), none, none]) (by simp [s_law_groups_2]) ?_
  have t8 := tk 0 8 (by decide) (by decide) (by decide)
  have d80 := dp 0 8 (by decide)
  have d81 := dl 0 8 (by decide)
  obtain ⟨v, hv⟩ : ∃ v : Nat, dr 0 8 = (v : Int) := ⟨_, (Int.toNat_of_nonneg d80).symm⟩
  rw [hv] at t8 d81
  have g0 : inLine (1 + (v : Int)) = true := inl_small (by omega) (by omega)
  have tn : (1 + (v : Int)).toNat = 1 + v := by omega
  refine wp_seq (wp_rng (tg := 3) (lo := 0) (n := 1 + v) (ev' := [some (PEN (0 + 1)), some (.dp, .lst ((natI []).map D.int)), some (.dp, .int 1), none, none]) (by
      (try simp at t8)
      simp [t8, pn, pp, g0, tn]) (fun i e => ∃ (gs : List Nat) (p : Int) (x3 x4 : Option MD), gs.length = i ∧ (∀ c ∈ gs, c ≤ 4) ∧ 1 ≤ p ∧ p ≤ 4 ^ i ∧ e = [some (PEN (1 + (i : Int))), some (.dp, .lst ((natI gs).map D.int)), some (.dp, .int p), x3, x4]) ⟨[], 1, none, none, rfl, (fun _ h => nomatch h), by decide, by decide, by simp⟩ ?_ ?_)
  · rintro i e hi ⟨gs, p, x3, x4, lg, cg, p1, p2, rfl⟩
    refine ⟨by simp, ?_⟩
    have t := tk (1 + (i : Int)) 4 (by omega) (by omega) (by decide)
    have d0 := dp (1 + (i : Int)) 4 (by decide)
    have d1 := dl (1 + (i : Int)) 4 (by decide)
    have pb : (4 : Int) ^ i ≤ 65536 := by
      have : (4 : Nat) ^ i ≤ 4 ^ 8 := Nat.pow_le_pow_right (by decide) (by omega)
      have h2 : ((4 ^ i : Nat) : Int) = (4 : Int) ^ i := by rw [Int.natCast_pow]; rfl
      rw [← h2]
      have : (4 : Nat) ^ 8 = 65536 := by decide
      omega
    have gd : gDiv (.int 100) (.int p) = some (.int (100 / p)) := x_gDiv (by omega) (by omega)
    obtain ⟨sz, hsz⟩ : ∃ sz : Int, sz = if 100 / p < 1 + dr (1 + (i : Int)) 4 then 100 / p else 1 + dr (1 + (i : Int)) 4 := ⟨_, rfl⟩
    have sz4 : sz ≤ 4 := by rw [hsz]; split <;> omega
    have s4 : s_law_groups_4 [some (PEN (1 + (i : Int))), some (.dp, .lst ((natI gs).map D.int)), some (.dp, .int p), some (.dp, .int (0 + (i : Int))), x4] = .nx [some (PEN (1 + (i : Int) + 1)), some (.dp, .lst ((natI gs).map D.int)), some (.dp, .int p), some (.dp, .int (0 + (i : Int))), some (.dp, .int sz)] := by
      rw [hsz]
      generalize (natI gs).map D.int = GD at *
      (try simp at t)
      simp [s_law_groups_4, t, pn, pp, gd]
    refine wp_step s4 ?_
    obtain ⟨c, hc, c1, c4⟩ : ∃ c : Nat, (if sz > 1 then sz else 1) = (c : Int) ∧ 1 ≤ c ∧ c ≤ 4 := ⟨(if sz > 1 then sz else 1).toNat, by split <;> omega, by split <;> omega, by split <;> omega⟩
    have gm : gMax (.int 1) (.int sz) = some (.int (c : Int)) := by rw [x_gMax, hc]
    have zl : ((natI gs).map D.int).length < sizeLine := size_lt (by simp [natI]; omega)
    have eN : (natI (gs ++ [c])).map D.int = (natI gs).map D.int ++ [.int (c : Int)] := by simp [natI]
    refine wp_step (s := s_law_groups_5) (ev' := [some (PEN (1 + (i : Int) + 1)), some (.dp, .lst ((natI (gs ++ [c])).map D.int)), some (.dp, .int p), some (.dp, .int (0 + (i : Int))), some (.dp, .int sz)]) (by
      rw [eN]
      generalize (natI gs).map D.int = GD at *
      simp [-x_gMax, s_law_groups_5, gm, mutG, appU, zl]) ?_
    have mo : mulOk p (c : Int) = true := mulOk_r (by omega)
    refine wp_nx (s := s_law_groups_6) (ev' := [some (PEN (1 + (i : Int) + 1)), some (.dp, .lst ((natI (gs ++ [c])).map D.int)), some (.dp, .int (p * (c : Int))), some (.dp, .int (0 + (i : Int))), some (.dp, .int sz)]) (by
      generalize (natI (gs ++ [c])).map D.int = GD at *
      simp [-x_gMax, s_law_groups_6, gm, mo]) ⟨gs ++ [c], p * (c : Int), _, _, by simp [lg], ?_, ?_, ?_, by rw [show 1 + ((i + 1 : Nat) : Int) = 1 + (i : Int) + 1 from by omega]⟩
    · intro x hx
      rcases List.mem_append.mp hx with h | h
      · exact cg x h
      · cases List.mem_singleton.mp h; exact c4
    · have : 1 * 1 ≤ p * (c : Int) := Int.mul_le_mul p1 (by omega) (by decide) (by omega)
      omega
    · rw [Int.pow_succ]
      exact Int.mul_le_mul p2 (by omega) (by omega) (by omega)
  · rintro e ⟨gs, p, x3, x4, lg, cg, p1, p2, rfl⟩
    dsimp only
    refine wp_rt (s := s_law_groups_7) (r := (.dp, lstI (natI gs))) (ev' := [some (PEN (1 + ((1 + v : Nat) : Int))), none, some (.dp, .int p), x3, x4]) (by
      unfold lstI
      generalize (natI gs).map D.int = GD at *
      simp [s_law_groups_7]) ⟨by simp, gs, 1 + ((1 + v : Nat) : Int), by omega, by omega, by omega, by omega, cg, rfl, by simp⟩
theorem own_ins (rs : List (List Nat)) (row : List Nat) (p h : Nat) : ((rs.take p ++ [row] ++ rs.drop p).map own).count h = (rs.map own).count h + if own row = h then 1 else 0 := by
  conv => rhs; rw [← List.take_append_drop p rs]
  simp only [List.map_append, List.count_append, List.map_cons, List.map_nil, List.count_cons, List.count_nil, beq_iff_eq]
  omega
def rowsD (rs : List (List Nat)) : List D := rs.map fun r => lstI (natI r)
theorem numbers_ok {ns : List Int} {gs : List Nat} (g8 : gs.length ≤ 8) (g4 : ∀ c ∈ gs, c ≤ 4) {k : Int} (hk : 0 ≤ k) (hk2 : k ≤ 1000) : ∃ (rs : List (List Nat)) (k' : Int), (∀ r ∈ rs, RowG gs.length r) ∧ rs.length ≤ 32 ∧ (∀ h, (rs.map own).count h ≤ 4) ∧
    F__law_numbers [penD ns k, (.lk, lstI (natI gs))] = .ok (.dp, .lst (rowsD rs)) [some (penD ns k'), some (.lk, lstI (natI gs))] := by
  suffices hh : (F__law_numbers [penD ns k, (.lk, lstI (natI gs))]).wp (fun r fs => ∃ (rs : List (List Nat)) (k' : Int), (∀ r ∈ rs, RowG gs.length r) ∧ rs.length ≤ 32 ∧ (∀ h, (rs.map own).count h ≤ 4) ∧ r = (.dp, .lst (rowsD rs)) ∧ fs = [some (penD ns k'), some (.lk, lstI (natI gs))]) noX by
    obtain ⟨r, fs, h1, rs, k', p1, p2, p3, rfl, rfl⟩ := wp_ok hh
    exact ⟨rs, k', p1, p2, p3, h1⟩
  have tk := fun (k most : Int) (h0 : 0 ≤ k) (h1 : k < 100000) (h2 : 0 < most) => pen_take ns k most h0 (by omega) h2
  have dp := fun (k most : Int) (h2 : 0 < most) => drawn_pos (ns := ns) (k := k) (most := most) h2
  have dl := fun (k most : Int) (h2 : 0 < most) => drawn_lt (ns := ns) (k := k) (most := most) h2
  generalize hdr : (fun k most => drawn ns k most) = dr at *
  have hdr : ∀ k most, drawn ns k most = dr k most := fun k most => congrFun (congrFun hdr k) most
  simp only [hdr] at tk dp dl
  obtain ⟨PEN, hPEN⟩ : ∃ PEN : Int → MD, ∀ q, PEN q = penD ns q := ⟨fun q => penD ns q, fun _ => rfl⟩
  have pn : ∀ q, ((PEN q).1 = Md.lk) = False := fun q => by rw [hPEN]; simp
  have pp : ∀ q, put1 (some (PEN q)) = some (PEN q) := fun q => by rw [hPEN]; rfl
  simp only [← hPEN] at tk ⊢
  refine w__law_numbers ?_
  have gat : ∀ i : Nat, i < gs.length → ∃ c : Nat, c ≤ 4 ∧ atI ((natI gs).map D.int) (i : Int) = some (.int (c : Int)) := fun i hi => by
    refine ⟨gs[i], g4 _ (List.getElem_mem hi), ?_⟩
    rw [atI_nat]
    simp [natI, List.getElem?_eq_getElem hi]
  have lG : ((natI gs).map D.int).length = gs.length := by simp [natI]
  unfold lstI
  generalize (natI gs).map D.int = GD at *
  refine wp_step (s := s_law_numbers_1) (ev' := [some (PEN k), some (.lk, .lst GD), some (.dp, .lst (rowsD [])), none, none, none]) (by simp [s_law_numbers_1, rowsD]) ?_
  have gl : inLine (gs.length : Int) = true := inl_small (by omega) (by omega)
  refine wp_seq (wp_rng (tg := 3) (lo := 0) (n := gs.length) (ev' := [some (PEN k), some (.lk, .lst GD), some (.dp, .lst (rowsD [])), none, none, none]) (by simp [gl, lG]) (fun i e => ∃ (rs : List (List Nat)) (q : Int) (x3 x4 x5 : Option MD), (∀ r ∈ rs, RowG gs.length r) ∧ rs.length ≤ 4 * i ∧ (∀ h, (rs.map own).count h ≤ 4 ∧ (i ≤ h → (rs.map own).count h = 0)) ∧ 0 ≤ q ∧ q ≤ 1000 + 12 * (i : Int) ∧ e = [some (PEN q), some (.lk, .lst GD), some (.dp, .lst (rowsD rs)), x3, x4, x5]) ⟨[], k, none, none, none, (fun _ h => nomatch h), by simp, fun h => ⟨by simp, fun _ => by simp⟩, hk, by omega, by simp⟩ ?_ ?_)
  · rintro i e hi ⟨rs, q, x3, x4, x5, hr, lr, hc, q0, q1, rfl⟩
    refine ⟨by simp, ?_⟩
    have e0 : (0 : Int) + (i : Int) = (i : Int) := by omega
    rw [e0]
    obtain ⟨c, c4, hcg⟩ := gat i hi
    have gc : inLine (c : Int) = true := inl_small (by omega) (by omega)
    show (s_law_numbers_3 _).wp _
    refine wp_rng (tg := 4) (lo := 0) (n := c) (ev' := [some (PEN q), some (.lk, .lst GD), some (.dp, .lst (rowsD rs)), some (.dp, .int (i : Int)), x4, x5]) (by
      generalize rowsD rs = RD at *
      simp [gc, hcg]) (fun j e => ∃ (rs : List (List Nat)) (q : Int) (x4 x5 : Option MD), (∀ r ∈ rs, RowG gs.length r) ∧ rs.length ≤ 4 * i + j ∧ (∀ h, (h ≠ i → (rs.map own).count h ≤ 4 ∧ (i ≤ h → (rs.map own).count h = 0)) ∧ (h = i → (rs.map own).count h ≤ j)) ∧ 0 ≤ q ∧ q ≤ 1000 + 12 * (i : Int) + 3 * (j : Int) ∧ e = [some (PEN q), some (.lk, .lst GD), some (.dp, .lst (rowsD rs)), some (.dp, .int (i : Int)), x4, x5]) ⟨rs, q, x4, x5, hr, by omega, fun h => ⟨fun _ => hc h, fun e => by have := (hc h).2 (by omega); omega⟩, q0, by omega, rfl⟩ ?_ ?_
    · clear hr lr hc q0 q1
      rintro j e hj ⟨rs, q, x4, x5, hr, lr, hc, q0, q1, rfl⟩
      refine ⟨by simp, ?_⟩
      refine wp_step (s := s_law_numbers_4) (ev' := [some (PEN q), some (.lk, .lst GD), some (.dp, .lst (rowsD rs)), some (.dp, .int (i : Int)), some (.dp, .int (0 + (j : Int))), some (.dp, .lst [.int (i : Int)])]) (by
        generalize rowsD rs = RD at *
        simp [s_law_numbers_4]) ?_
      obtain ⟨row, q2, hrow, how, q20, q21, s5⟩ : ∃ (row : List Nat) (q2 : Int), RowG gs.length row ∧ own row = i ∧ 0 ≤ q2 ∧ q2 ≤ q + 2 ∧ s_law_numbers_5 [some (PEN q), some (.lk, .lst GD), some (.dp, .lst (rowsD rs)), some (.dp, .int (i : Int)), some (.dp, .int (0 + (j : Int))), some (.dp, .lst [.int (i : Int)])] = .nx [some (PEN q2), some (.lk, .lst GD), some (.dp, .lst (rowsD rs)), some (.dp, .int (i : Int)), some (.dp, .int (0 + (j : Int))), some (.dp, lstI (natI row))] := by
        generalize rowsD rs = RD at *
        by_cases i0 : i = 0
        · subst i0
          exact ⟨[0], q, .inl ⟨0, hi, rfl⟩, rfl, q0, by omega, by simp [s_law_numbers_5, natI, lstI]⟩
        · have t1 := tk q 4 (by omega) (by omega) (by decide)
          have ip : (0 : Int) < (i : Int) := by omega
          have ipn : 0 < i := by omega
          (try simp at t1)
          by_cases c0 : dr q 4 = 0
          · have t2 := tk (q + 1) (i : Int) (by omega) (by omega) ip
            have d0 := dp (q + 1) (i : Int) ip
            have d1 := dl (q + 1) (i : Int) ip
            obtain ⟨l, hl⟩ : ∃ l : Nat, dr (q + 1) (i : Int) = (l : Int) := ⟨_, (Int.toNat_of_nonneg d0).symm⟩
            rw [hl] at t2 d1
            have zl : ([D.int (i : Int)]).length < sizeLine := size_lt (by simp)
            (try simp at t2)
            have zl1 : 1 < sizeLine := size_lt (by omega)
            exact ⟨[i, l], q + 1 + 1, .inr ⟨i, l, hi, by omega, rfl⟩, rfl, by omega, by omega, by simp [s_law_numbers_5, s_law_numbers_6, natI, lstI, t1, t2, c0, pn, pp, ip, ipn, i0, mutG, appU, zl, zl1]⟩
          · exact ⟨[i], q + 1, .inl ⟨i, hi, rfl⟩, rfl, by omega, by omega, by simp [s_law_numbers_5, natI, lstI, t1, c0, pn, pp, ip, ipn, i0]⟩
      refine wp_step s5 ?_
      have t := tk q2 ((rs.length : Int) + 1) (by omega) (by omega) (by omega)
      have d0 := dp q2 ((rs.length : Int) + 1) (by omega)
      have d1 := dl q2 ((rs.length : Int) + 1) (by omega)
      obtain ⟨p, hp⟩ : ∃ p : Nat, dr q2 ((rs.length : Int) + 1) = (p : Int) := ⟨_, (Int.toNat_of_nonneg d0).symm⟩
      rw [hp] at t d1
      have eN : rowsD (rs.take p ++ [row] ++ rs.drop p) = (rowsD rs).take p ++ [lstI (natI row)] ++ (rowsD rs).drop p := by
        unfold rowsD
        rw [List.map_append, List.map_append, List.map_take, List.map_drop]
        rfl
      have ins := fun r ev => ins_ok (i := 2) (n := p) (r := r) (ev := ev) (by omega)
      have lR : (rowsD rs).length = rs.length := by simp [rowsD]
      have zl : rs.length < sizeLine := size_lt (by omega)
      refine wp_nx (s := s_law_numbers_7) (ev' := [some (PEN (q2 + 1)), some (.lk, .lst GD), some (.dp, .lst (rowsD (rs.take p ++ [row] ++ rs.drop p))), some (.dp, .int (i : Int)), some (.dp, .int (0 + (j : Int))), none]) (by
        rw [eN]
        generalize rowsD rs = RD at *
        have fr : flat (lstI (natI row)) = false := rfl
        generalize lstI (natI row) = RW at *
        (try simp at t)
        simp [-x_insK2, ins, s_law_numbers_7, t, pn, pp, mutG, insU, lR, zl, fr]) ⟨rs.take p ++ [row] ++ rs.drop p, q2 + 1, _, _, ?_, ?_, ?_, by omega, by omega, rfl⟩
      · intro r hr2
        rw [List.mem_append, List.mem_append] at hr2
        rcases hr2 with (h | h) | h
        · exact hr r (List.mem_of_mem_take h)
        · cases List.mem_singleton.mp h; exact hrow
        · exact hr r (List.mem_of_mem_drop h)
      · have : (rs.take p).length + (rs.drop p).length = rs.length := by rw [← List.length_append, List.take_append_drop]
        simp only [List.length_append, List.length_cons, List.length_nil]
        omega
      · intro h
        have hh := hc h
        rw [own_ins, how]
        refine ⟨fun ne => ?_, fun e => ?_⟩
        · rw [if_neg (Ne.symm ne), Nat.add_zero]
          exact hh.1 ne
        · rw [if_pos e.symm]
          have := hh.2 e
          omega
    · clear hr lr hc q0 q1
      rintro e ⟨rs, q, x4, x5, hr, lr, hc, q0, q1, rfl⟩
      refine ⟨rs, q, _, x4, x5, hr, by omega, fun h => ?_, q0, by omega, rfl⟩
      by_cases e : h = i
      · have := (hc h).2 e
        exact ⟨by omega, fun _ => by omega⟩
      · have := (hc h).1 e
        exact ⟨this.1, fun _ => this.2 (by omega)⟩
  · rintro e ⟨rs, q, x3, x4, x5, hr, lr, hc, q0, q1, rfl⟩
    dsimp only
    exact wp_rt (s := s_law_numbers_8) (r := (.dp, .lst (rowsD rs))) (ev' := [some (PEN q), some (.lk, .lst GD), none, x3, x4, x5]) (by
      generalize rowsD rs = RD at *
      simp [s_law_numbers_8]) ⟨by simp, rs, q, hr, by omega, fun h => (hc h).1, rfl, by simp⟩

/-! ### k36: all choices gone through by groups -/
theorem lc_shk {α : Type} {tgs own : List Nat} {test : Ev → Rs Bool} {elt : Ev → Rs MD} {ev : Ev} (it : α → List MD) (t : α → Bool) (e : α → D) (ht : ∀ i ∈ tgs, i < ev.length) (xs : List α) (h1 : ∀ x ∈ xs, (it x).length = tgs.length)
    (h2 : ∀ x ∈ xs, test (asgn tgs (it x) ev) = .ok (t x) (asgn tgs (it x) ev)) (h3 : ∀ x ∈ xs, t x = true → elt (asgn tgs (it x) ev) = .ok (.sh, e x) (asgn tgs (it x) ev)) (h4 : ∀ x ∈ xs, wipeE own (asgn tgs (it x) ev) = ev) (nf : ∀ x ∈ xs, flat (e x) = false) (hl : xs.length < 1000000) :
    ∃ m, (m = .dp ∨ m = .rt) ∧ lcG tgs own test elt (xs.map it) (.dp, .lst []) ev = .ok (m, .lst ((xs.filter t).map e)) ev := by
  obtain ⟨acc, e', h, rfl, m, hm, rfl⟩ := lc_inv (tgs := tgs) (own := own) (test := test) (elt := elt) (items := xs.map it) (ev := ev) (fun i acc e' => e' = ev ∧ ∃ m, (m = .dp ∨ m = .rt) ∧ acc = (m, .lst (((xs.take i).filter t).map e)))
    ⟨rfl, .dp, .inl rfl, by simp⟩ (fun i y acc e' hy hI => by
      obtain ⟨rfl, m, hm, rfl⟩ := hI
      rw [List.getElem?_map] at hy
      obtain ⟨x, hx, rfl⟩ := Option.map_eq_some_iff.mp hy
      have mx := List.mem_of_getElem? hx
      refine ⟨h1 x mx, ht, ?_⟩
      have tk : (xs.take (i + 1)).filter t = (xs.take i).filter t ++ (if t x = true then [x] else []) := by
        rw [take_get hx, List.filter_append]
        by_cases c : t x = true
        · simp [c]
        · simp [c]
      rw [tk]
      by_cases c : t x = true
      · refine .inr ⟨_, _, _, (.rt, .lst (((xs.take i).filter t).map e ++ [e x])), (by rw [h2 x mx, c]), h3 x mx c, ?_, h4 x mx, .rt, .inr rfl, by rw [if_pos c, List.map_append]; rfl⟩
        have : (((xs.take i).filter t).map e).length < sizeLine := Nat.lt_of_lt_of_le (show _ < 1000000 by
          rw [List.length_map]
          have := List.length_filter_le t (xs.take i)
          rw [List.length_take] at this
          omega) (by decide)
        rw [List.length_map] at this
        rcases hm with rfl | rfl <;> simp [appM, this, nf x mx]
      · have c' : t x = false := by simpa using c
        refine .inl ⟨_, (by rw [h2 x mx, c']), h4 x mx, m, hm, by rw [if_neg c, List.append_nil]⟩)
  rw [List.length_map, List.take_length] at h
  exact ⟨m, hm, h⟩
def pG (p : List Int × List Nat) : D := .tup [lstI p.1, lstI (natI p.2)]
theorem split_pG {m : Md} : ∀ ps : List (List Int × List Nat), splitA m (ps.map pG) = some (ps.map fun p => [(m, lstI p.1), (m, lstI (natI p.2))])
  | [] => rfl
  | p :: ps => by
    have e : splitA m (pG p :: ps.map pG) = (splitA m (ps.map pG)).map ([childM m (lstI p.1), childM m (lstI (natI p.2))] :: ·) := rfl
    rw [List.map_cons, e, split_pG ps]
    rfl
theorem in_nat {g : Nat} {m : List Nat} : (g : Int) ∈ natI m ↔ g ∈ m := by
  unfold natI
  rw [List.mem_map]
  constructor
  · rintro ⟨x, hx, e⟩
    have : x = g := by omega
    rw [← this]
    exact hx
  · exact fun h => ⟨g, h, rfl⟩
theorem law_due_ok {rs : List (List Nat)} {n : Nat} (h8 : n ≤ 8) (hr : ∀ r ∈ rs, RowG n r) (hl : rs.length ≤ 32) (hc : ∀ h, (rs.map own).count h ≤ 4) :
    ∃ m, (m = Md.dp ∨ m = Md.rt) ∧ F__law_due [(.lk, .lst (rowsD rs)), (.lk, .int (n : Int))] = .ok (m, .lst ((choF (rs.map rowV) (geo n)).map lstI)) [some (.lk, .lst (rowsD rs)), some (.lk, .int (n : Int))] := by
  suffices hh : (F__law_due [(.lk, .lst (rowsD rs)), (.lk, .int (n : Int))]).wp (fun r fs => ∃ m, (m = Md.dp ∨ m = Md.rt) ∧ r = (m, .lst ((choF (rs.map rowV) (geo n)).map lstI)) ∧ fs = [some (.lk, .lst (rowsD rs)), some (.lk, .int (n : Int))]) noX by
    obtain ⟨r, fs, h1, m, p1, rfl, rfl⟩ := wp_ok hh
    exact ⟨m, p1, h1⟩
  refine w__law_due ?_
  obtain ⟨RD, hRD⟩ : ∃ RD, RD = rowsD rs := ⟨_, rfl⟩
  rw [← hRD]
  refine wp_step (s := s_law_due_1) (ev' := [some (.lk, .lst RD), some (.lk, .int (n : Int)), some (.dp, .lst ((goK rs 0).map pG)), none, none, none, none, none]) (by simp [s_law_due_1, goK, pG, natI, lstI]) ?_
  refine wp_seq (wp_kids (tg := 3) (m := .lk) (ds := RD) (ev' := [some (.lk, .lst RD), some (.lk, .int (n : Int)), some (.dp, .lst ((goK rs 0).map pG)), none, none, none, none, none]) (by
      generalize (goK rs 0).map pG = GD at *
      simp) (fun i e => ∃ (m : Md) (x3 x5 x6 : Option MD), (m = .dp ∨ m = .rt) ∧ e = [some (.lk, .lst RD), some (.lk, .int (n : Int)), some (m, .lst ((goK rs i).map pG)), x3, none, x5, x6, none]) ⟨.dp, none, none, none, .inl rfl, rfl⟩ ?_ ?_)
  · rintro i x e hx ⟨m, x3, x5, x6, hm, rfl⟩
    rw [hRD] at hx
    unfold rowsD at hx
    rw [List.getElem?_map] at hx
    obtain ⟨row, hrow, rfl⟩ := Option.map_eq_some_iff.mp hx
    have hi := (List.getElem?_eq_some_iff.mp hrow).1
    have rg := hr row (List.mem_of_getElem? hrow)
    refine ⟨by simp, ?_⟩
    have ec : childM .lk (lstI (natI row)) = (Md.lk, lstI (natI row)) := rfl
    rw [ec]
    have eg : goK rs (i + 1) = goS (goK rs i) row := by
      show goS _ (rs.getD i []) = _
      rw [List.getD_eq_getElem?_getD, hrow]
      rfl
    have ln := goK_len h8 hr hc (show i + 1 ≤ rs.length from hi)
    have lw : ∀ p ∈ goK rs i, p.1.length = i ∧ p.2.length ≤ 8 := fun p hp => by
      obtain ⟨a1, _, a3, a4⟩ := (mem_goK hr i (by omega) p).mp hp
      refine ⟨a1, ?_⟩
      have := nd_len (ds := List.range n) a4 fun g hg => by
        rw [a3] at hg
        obtain ⟨q, hq, hgq⟩ := List.mem_flatten.mp hg
        exact List.mem_range.mpr (row_lt (hr q (List.mem_of_mem_take (sel_mem hq))) g hgq)
      rw [List.length_range] at this
      omega
    have lrow : row.length ≤ 2 := by rcases rg with ⟨g, _, rfl⟩ | ⟨g, l, _, _, rfl⟩ <;> simp
    rw [eg] at ln ⊢
    generalize goK rs i = go at *
    have sp := split_pG (m := .sh) go
    obtain ⟨GD, hGD⟩ : ∃ GD, GD = go.map pG := ⟨_, rfl⟩
    rw [← hGD] at sp ⊢
    refine wp_step (s := s_law_due_3) (ev' := [some (.lk, .lst RD), some (.lk, .int (n : Int)), some (m, .lst GD), some (.lk, lstI (natI row)), some (.dp, .lst []), x5, x6, none]) (by
      generalize lstI (natI row) = RW at *
      simp [s_law_due_3]) ?_
    refine wp_seq (wp_for (items := go.map fun p => [(Md.sh, lstI p.1), (Md.sh, lstI (natI p.2))]) (ev' := [some (.lk, .lst RD), some (.lk, .int (n : Int)), some (.sh, .lst GD), some (.lk, lstI (natI row)), some (.dp, .lst []), x5, x6, none]) (by
      generalize lstI (natI row) = RW at *
      rcases hm with rfl | rfl <;> simp [srcM, vwI, itsD, sp]) (fun j e => ∃ (Z : List (List Int × List Nat)) (mA : Md) (x5 x6 : Option MD), (mA = .dp ∨ mA = .rt) ∧ Z ++ goS (go.drop j) row = goS go row ∧ e = [some (.lk, .lst RD), some (.lk, .int (n : Int)), some (.sh, .lst GD), some (.lk, lstI (natI row)), some (mA, .lst (Z.map pG)), x5, x6, none]) ⟨[], .dp, x5, x6, .inl rfl, by simp, by simp⟩ ?_ ?_)
    · rintro j x e hx ⟨Z, mA, x5, x6, hA, hZ, rfl⟩
      rw [List.getElem?_map] at hx
      obtain ⟨p, hp, rfl⟩ := Option.map_eq_some_iff.mp hx
      obtain ⟨l1, l2⟩ := lw p (List.mem_of_getElem? hp)
      have eD : goS (go.drop j) row = ([(p.1 ++ [0], p.2)] ++ (if ∀ g ∈ row, g ∉ p.2 then [(p.1 ++ [1], p.2 ++ row)] else [])) ++ goS (go.drop (j + 1)) row := by
        unfold goS
        rw [drop_get hp, List.flatMap_cons]
      rw [eD] at hZ
      generalize hR : goS (go.drop (j + 1)) row = REST at *
      refine ⟨rfl, by simp, ?_⟩
      obtain ⟨c, t⟩ := p
      dsimp only at *
      have zt : (c.map D.int).length + 1 ≤ sizeLine := x_sz (by rw [List.length_map]; omega)
      have zm : ((natI t).map D.int).length + ((natI row).map D.int).length ≤ sizeLine := x_sz (by simp [natI]; omega)
      have ft : flats (c.map D.int) = true := flats_int
      have fm : flats ((natI t).map D.int) = true := flats_int
      have fr : flats ((natI row).map D.int) = true := flats_int
      have eT : ∀ b : Int, (c ++ [b]).map D.int = c.map D.int ++ [.int b] := fun b => by rw [List.map_append]; rfl
      have eM : (natI (t ++ row)).map D.int = (natI t).map D.int ++ (natI row).map D.int := by simp [natI]
      have hZl := congrArg List.length hZ
      simp only [List.length_append, List.length_cons, List.length_nil] at hZl
      have e0 : ∀ Z : List (List Int × List Nat), Z.length + 1 ≤ 16000000 → ((Z.map pG).length < sizeLine) := fun Z h => Nat.lt_of_lt_of_le (show _ < 16777216 by rw [List.length_map]; omega) (by decide)
      have lc := lc_pure (tgs := [7]) (own := [7]) (test := (liftB (pB (p2 gIn (pName 7) (pName 6))))) (elt := (capM (pName 7))) (ev := [some (.lk, .lst RD), some (.lk, .int (n : Int)), some (.sh, .lst GD), some (.lk, lstI (natI row)), some (.rt, .lst ((Z ++ [(c ++ [0], t)]).map pG)), some (.sh, lstI c), some (.sh, lstI (natI t)), none]) (fun g : Nat => [(Md.dp, D.int (g : Int))]) (fun g => decide (g ∈ t)) (fun g => D.int (g : Int)) (by simp) row [] (by simp) (fun g hg => by
        have ii := in_ints (n := (g : Int)) (ns := natI t)
        simp only [in_nat] at ii
        unfold lstI
        generalize (natI t).map D.int = TD at *
        generalize (Z ++ [(c ++ [0], t)]).map pG = ZD at *
        generalize (natI row).map D.int = RW at *
        generalize c.map D.int = CD at *
        simp [ii]) (fun g hg _ => by
        generalize lstI (natI t) = TD at *
        generalize (Z ++ [(c ++ [0], t)]).map pG = ZD at *
        generalize lstI (natI row) = RW at *
        generalize lstI c = CD at *
        simp) (by simp) (by rw [List.length_nil]; omega)
      have z := e0 Z (by omega)
      refine wp_step (s := s_law_due_5) (ev' := [some (.lk, .lst RD), some (.lk, .int (n : Int)), some (.sh, .lst GD), some (.lk, lstI (natI row)), some (.rt, .lst ((Z ++ [(c ++ [0], t)]).map pG)), some (.sh, lstI c), some (.sh, lstI (natI t)), none]) (by
        rw [List.map_append]
        show _ = Fl.nx [some (.lk, .lst RD), some (.lk, .int (n : Int)), some (.sh, .lst GD), some (.lk, lstI (natI row)), some (.rt, .lst (Z.map pG ++ [.tup [.lst ((c ++ [0]).map D.int), lstI (natI t)]])), some (.sh, .lst (c.map D.int)), some (.sh, lstI (natI t)), none]
        rw [eT]
        have f1 : flat (lstI (natI t)) = false := rfl
        unfold lstI at f1 ⊢
        generalize Z.map pG = ZD at *
        generalize c.map D.int = C0 at *
        generalize (natI t).map D.int = T0 at *
        generalize (natI row).map D.int = RW at *
        rcases hA with rfl | rfl <;> simp [s_law_due_5, zt, ft, f1, mutG, appU, z]) ?_
      rw [List.nil_append] at lc
      rw [← List.append_assoc, ← List.append_assoc] at hZ
      have kR : kidsL .lk ((natI row).map D.int) = row.map fun g : Nat => [(Md.dp, D.int (g : Int))] := by rw [kidsL_int]; unfold intsL natI; rw [List.map_map]; rfl
      by_cases q : ∀ g ∈ row, g ∉ t
      · rw [if_pos q] at hZ hZl
        have e1 : row.filter (fun g => decide (g ∈ t)) = [] := List.filter_eq_nil_iff.mpr fun g hg => by simp [q g hg]
        rw [e1, List.map_nil] at lc
        have z2 := e0 (Z ++ [(c ++ [0], t)]) (by simp; omega)
        refine wp_nx (s := s_law_due_6) (ev' := [some (.lk, .lst RD), some (.lk, .int (n : Int)), some (.sh, .lst GD), some (.lk, lstI (natI row)), some (.rt, .lst ((Z ++ [(c ++ [0], t)] ++ [(c ++ [1], t ++ row)]).map pG)), some (.sh, lstI c), some (.sh, lstI (natI t)), none]) ?_ ⟨_, .rt, _, _, .inr rfl, hZ, rfl⟩
        rw [List.map_append (l₂ := [(c ++ [1], t ++ row)])]
        show _ = Fl.nx [some (.lk, .lst RD), some (.lk, .int (n : Int)), some (.sh, .lst GD), some (.lk, lstI (natI row)), some (.rt, .lst ((Z ++ [(c ++ [0], t)]).map pG ++ [.tup [.lst ((c ++ [1]).map D.int), .lst ((natI (t ++ row)).map D.int)]])), some (.sh, .lst (c.map D.int)), some (.sh, lstI (natI t)), none]
        rw [eT, eM]
        unfold lstI at lc ⊢
        generalize (Z ++ [(c ++ [0], t)]).map pG = ZD at *
        generalize c.map D.int = C0 at *
        generalize (natI t).map D.int = T0 at *
        generalize (natI row).map D.int = RW at *
        (try simp at lc)
        simp [s_law_due_6, s_law_due_7, kR, lc, zt, zm, ft, fm, fr, mutG, appU, z2]
      · rw [if_neg q, List.append_nil] at hZ
        refine wp_nx (s := s_law_due_6) (ev' := [some (.lk, .lst RD), some (.lk, .int (n : Int)), some (.sh, .lst GD), some (.lk, lstI (natI row)), some (.rt, .lst ((Z ++ [(c ++ [0], t)]).map pG)), some (.sh, lstI c), some (.sh, lstI (natI t)), none]) ?_ ⟨_, .rt, _, _, .inr rfl, hZ, rfl⟩
        have e1 : (row.filter (fun g => decide (g ∈ t))).length ≠ 0 := fun h => q fun g hg hh => by
          have := List.length_eq_zero_iff.mp h
          have := List.filter_eq_nil_iff.mp this g hg
          simp [hh] at this
        generalize row.filter (fun g => decide (g ∈ t)) = FL at *
        have e2 : FL ≠ [] := fun h => e1 (by rw [h]; rfl)
        unfold lstI at lc ⊢
        generalize (Z ++ [(c ++ [0], t)]).map pG = ZD at *
        generalize c.map D.int = C0 at *
        generalize (natI t).map D.int = T0 at *
        generalize (natI row).map D.int = RW at *
        (try simp at lc)
        simp [s_law_due_6, s_law_due_7, kR, lc, e1, e2]
    · rintro e ⟨Z, mA, x5, x6, hA, hZ, rfl⟩
      rw [List.length_map, List.drop_length] at hZ
      have : Z = goS go row := by rw [← hZ]; simp [goS]
      rw [← this]
      generalize Z.map pG = ZD at *
      generalize lstI (natI row) = RW at *
      dsimp only
      refine wp_nx (s := s_law_due_8) (ev' := [some (.lk, .lst RD), some (.lk, .int (n : Int)), some (mA, .lst ZD), some (.lk, RW), none, x5, x6, none]) ?_ ⟨mA, _, _, _, hA, rfl⟩
      rcases hA with rfl | rfl <;> simp [s_law_due_8]
  · rintro e ⟨m, x3, x5, x6, hm, rfl⟩
    dsimp only
    have lR : RD.length = rs.length := by rw [hRD]; simp [rowsD]
    rw [lR]
    have ch := goK_cho hr hl
    have ln := goK_len h8 hr hc (Nat.le_refl rs.length)
    generalize goK rs rs.length = go at *
    have sp := split_pG (m := .sh) go
    obtain ⟨GD, hGD⟩ : ∃ GD, GD = go.map pG := ⟨_, rfl⟩
    rw [← hGD] at sp ⊢
    have sr2 := sortD_rows (xs := (go.filter fun p => decide (p.2.length = n)).map (·.1))
    rw [ch] at sr2
    obtain ⟨mC, hC, lc⟩ := lc_shk (tgs := [5, 6]) (own := [5, 6]) (test := (liftB (pB (p2 gEq (p1 gLen (pName 6)) (pName 1))))) (elt := (capM (pName 5))) (ev := [some (.lk, .lst RD), some (.lk, .int (n : Int)), some (.sh, .lst GD), x3, none, none, none, none]) (fun p : List Int × List Nat => [(Md.sh, lstI p.1), (Md.sh, lstI (natI p.2))]) (fun p => decide (p.2.length = n)) (fun p => lstI p.1) (by simp) go (by simp) (fun p _ => by
      have lt : ((natI p.2).map D.int).length = p.2.length := by simp [natI]
      unfold lstI
      generalize (natI p.2).map D.int = TD at *
      generalize p.1.map D.int = CD at *
      simp [lt]
      omega) (fun p _ _ => by
      generalize lstI (natI p.2) = TD at *
      have fc : flat (lstI p.1) = false := rfl
      generalize lstI p.1 = CD at *
      simp [fc]) (by simp) (fun _ _ => rfl) (by omega)
    have em : ((go.filter fun p => decide (p.2.length = n)).map fun p => lstI p.1) = ((go.filter fun p => decide (p.2.length = n)).map (·.1)).map lstI := by rw [List.map_map]; rfl
    rw [em] at lc
    generalize ((go.filter fun p => decide (p.2.length = n)).map (·.1)).map lstI = AC at *
    generalize hCD : (choF (rs.map rowV) (geo n)).map lstI = CD at *
    have fin : ∃ mm, (mm = Md.dp ∨ mm = Md.rt) ∧ s_law_due_9 [some (.lk, .lst RD), some (.lk, .int (n : Int)), some (m, .lst GD), x3, none, x5, x6, none] = .rt (mm, .lst CD) [some (.lk, .lst RD), some (.lk, .int (n : Int)), some (.sh, .lst GD), x3, none, x5, x6, none] := by
      cases hf : flats CD with
      | true => exact ⟨.dp, .inl rfl, by rcases hm with rfl | rfl <;> rcases hC with rfl | rfl <;> simp [s_law_due_9, srcM, vwI, itsD, sp, lc, sr2, hf]⟩
      | false => exact ⟨.rt, .inr rfl, by rcases hm with rfl | rfl <;> rcases hC with rfl | rfl <;> simp [s_law_due_9, srcM, vwI, itsD, sp, lc, sr2, hf]⟩
    obtain ⟨mm, hmm, f9⟩ := fin
    exact wp_rt f9 ⟨by simp, mm, hmm, rfl, by simp⟩

/-! ### k36: the law -/
theorem plns_lstI (A : List (List Int)) : plns (A.map lstI) = true := plns_map (fun w => by show pln (.lst (w.map D.int)) = true; simp only [pln]; exact plns_map (fun _ => rfl) _) A
theorem dpt_lstI (A : List (List Int)) : dpts (A.map lstI) ≤ 2 := dpts_map (fun w => by
  show dpt (.lst (w.map D.int)) ≤ 2
  have := dpts_map (n := 1) (f := D.int) (fun _ => by simp [dpt]) w
  simp only [dpt]
  omega) A
theorem eq_lsts (A B : List (List Int)) : gEq (.lst (A.map lstI)) (.lst (B.map lstI)) = some (.bl (decide (A.map lstI = B.map lstI))) := by
  have h1 := dpt_lstI A
  have h2 := dpt_lstI B
  rw [gEq_pl (d := .lst (A.map lstI)) (e := .lst (B.map lstI)) (by simp only [pln]; exact plns_lstI A) (by simp only [pln]; exact plns_lstI B) (by simp only [dpt]; omega) (by simp only [dpt]; omega)]
  congr 2
  exact decide_eq_decide.mpr (by rw [D.lst.injEq])
theorem blsT {α : Type} (xs : List α) : gAll (.lst (xs.map fun _ => D.bl true)) = some (.bl true) := by
  have : ∀ xs : List α, blsOf (xs.map fun _ => D.bl true) = some (xs.map fun _ => true) := by
    intro xs
    induction xs with
    | nil => rfl
    | cons x xs ih => simp [blsOf, ih]
  unfold gAll
  dsimp only
  rw [this]
  simp
def pwL (n : Nat) : List Int := (List.range n).map pwZ
theorem pwL_s (n : Nat) : pwL (n + 1) = pwL n ++ [pwZ n] := by unfold pwL; rw [List.range_succ, List.map_append]; rfl
theorem pwL_sum : ∀ n, (pwL n).sum = geo n
  | 0 => rfl
  | n + 1 => by
    rw [pwL_s, List.sum_append, pwL_sum n]
    show _ = geo n + pwZ n
    simp
theorem law_holds : ∀ ns : List Int, ns.length ≤ 63 → ∃ m fs, F_law [(Md.sh, .lst (ns.map D.int))] = .ok (m, .bl true) fs := fun ns hn => by
  obtain ⟨gs, k, k0, k1, g1, g8, g4, gro⟩ := groups_ok ns
  obtain ⟨rs, k', hr, hl, hc, nu⟩ := numbers_ok (ns := ns) g8 g4 k0 (by omega)
  have nnf : ∀ x ∈ rs.map rowV, 0 ≤ x := fun x hx => by
    obtain ⟨r, hrr, rfl⟩ := List.mem_map.mp hx
    have := own_row (hr r hrr)
    have := pw_pos (own r)
    omega
  have co := choices_ok (ns := rs.map rowV) (due := geo gs.length) (by rw [List.length_map]; omega) nnf (geo_nn _) (hB_ok g8 hr hl hc)
  obtain ⟨mW, hmW, dw⟩ := law_due_ok g8 hr hl hc
  have cl : (choF (rs.map rowV) (geo gs.length)).length ≤ 400000 := by
    rw [← goK_cho hr hl, (srtI_perm _).length_eq, List.length_map]
    exact Nat.le_trans (List.length_filter_le _ _) (goK_len g8 hr hc (Nat.le_refl _))
  have cm : ∀ v ∈ choF (rs.map rowV) (geo gs.length), (v.length = (rs.map rowV).length ∧ z01 v) ∧ dotI v (rs.map rowV) = geo gs.length := fun v hv => mem_cho.mp hv
  have geP := geo_nn gs.length
  have sP := x_sum (ns := pwL gs.length)
  rw [pwL_sum] at sP
  obtain ⟨n, hn⟩ : ∃ n, n = gs.length := ⟨_, rfl⟩
  rw [← hn] at co dw cl cm geP sP hr
  have lG : ((natI gs).map D.int).length = n := by simp [natI, hn]
  have lS : (natI gs).length = n := by simp [natI, hn]
  obtain ⟨PEN, hPEN⟩ : ∃ PEN : Int → MD, ∀ q, PEN q = penD ns q := ⟨fun q => penD ns q, fun _ => rfl⟩
  have pn : ∀ q, ((PEN q).1 = Md.lk) = False := fun q => by rw [hPEN]; simp
  have pp : ∀ q, put1 (some (PEN q)) = some (PEN q) := fun q => by rw [hPEN]; rfl
  have p0 : some (Md.rt, D.lst [lstI ns, .int 0]) = some (PEN 0) := by rw [hPEN]
  simp only [← hPEN] at gro nu
  obtain ⟨SC, hSC⟩ : ∃ SC, SC = lstI ns := ⟨_, rfl⟩
  have eSC : D.lst (ns.map D.int) = SC := hSC.symm
  have fSC : flat SC = false := by rw [hSC]; rfl
  rw [eSC]
  rw [← hSC] at p0
  obtain ⟨GD, hGD⟩ : ∃ GD, GD = (natI gs).map D.int := ⟨_, rfl⟩
  have gro : F__law_groups [PEN 0] = .ok (.dp, .lst GD) [some (PEN k)] := by rw [gro, hGD, lstI]
  have nu : F__law_numbers [PEN k, (.lk, .lst GD)] = .ok (.dp, .lst (rowsD rs)) [some (PEN k'), some (.lk, .lst GD)] := by rw [hGD]; exact nu
  rw [← hGD] at lG
  have fG : flats GD = true := by rw [hGD]; exact flats_int
  refine law_of (w_law ?_)
  refine wp_step (s := s_law_1) (ev' := [some (.sh, SC), some (PEN 0), none, none, none, none, none, none, none, none, none, none]) (by rw [← p0]; simp [s_law_1, fSC]) ?_
  refine wp_step (s := s_law_2) (ev' := [some (.sh, SC), some (PEN k), some (.dp, .lst GD), none, none, none, none, none, none, none, none, none]) (by simp [s_law_2, gro, pn, pp]) ?_
  refine wp_step (s := s_law_3) (ev' := [some (.sh, SC), some (PEN k'), some (.dp, .lst GD), some (.dp, .lst (rowsD rs)), none, none, none, none, none, none, none, none]) (by
    generalize rowsD rs = RD at *
    simp [s_law_3, nu, pn, pp]) ?_
  refine wp_step (s := s_law_4) (ev' := [some (.sh, SC), some (PEN k'), some (.dp, .lst GD), some (.dp, .lst (rowsD rs)), some (.dp, .lst ((pwL 1).map D.int)), none, none, none, none, none, none, none]) (by
    generalize rowsD rs = RD at *
    simp [s_law_4, pwL, pwZ]) ?_
  have sl := fun (s : Bool) (ev : Ev) => sll_ok (w := natI gs) (lo := some ((1 : Nat) : Int)) (hi := none) (s := s) (ev := ev)
  simp only [cutI_a] at sl
  rw [← hGD] at sl
  have fD : flats (((natI gs).drop 1).map D.int) = true := flats_int
  refine wp_seq (wp_ints (tg := 5) (ns := (natI gs).drop 1) (ev' := [some (.sh, SC), some (PEN k'), some (.dp, .lst GD), some (.dp, .lst (rowsD rs)), some (.dp, .lst ((pwL 1).map D.int)), none, none, none, none, none, none, none]) (by
      have k : kidsL .sh (((natI gs).drop 1).map D.int) = intsL ((natI gs).drop 1) := kidsL_int
      have k2 : kidsL .dp (((natI gs).drop 1).map D.int) = intsL ((natI gs).drop 1) := kidsL_int
      generalize ((natI gs).drop 1).map D.int = DD at *
      generalize rowsD rs = RD at *
      generalize (pwL 1).map D.int = PD at *
      (try simp at sl)
      simp [kSlA, sl, newL, fD, k, k2]) (fun i e => ∃ x5, e = [some (.sh, SC), some (PEN k'), some (.dp, .lst GD), some (.dp, .lst (rowsD rs)), some (.dp, .lst ((pwL (i + 1)).map D.int)), x5, none, none, none, none, none, none]) ⟨none, rfl⟩ ?_ ?_)
  · rintro i x e hx ⟨x5, rfl⟩
    refine ⟨by simp, ?_⟩
    have hi : i < (natI gs).length - 1 := by have := (List.getElem?_eq_some_iff.mp hx).1; simpa using this
    have al : atI ((pwL (i + 1)).map D.int) (-1) = some (.int (pwZ i)) := by rw [pwL_s, List.map_append]; exact atI_last
    have mo : mulOk (pwZ i) 40 = true := mulOk_r (by omega)
    have z : ((pwL (i + 1)).map D.int).length < sizeLine := size_lt (by simp [pwL]; omega)
    refine wp_nx (s := l_law_5) (ev' := [some (.sh, SC), some (PEN k'), some (.dp, .lst GD), some (.dp, .lst (rowsD rs)), some (.dp, .lst ((pwL (i + 1 + 1)).map D.int)), some (.dp, .int x), none, none, none, none, none, none]) ?_ ⟨_, rfl⟩
    rw [pwL_s (i + 1), List.map_append, pw_succ]
    generalize (pwL (i + 1)).map D.int = PD at *
    generalize rowsD rs = RD at *
    simp [l_law_5, s_law_6, al, mo, mutG, appU, z]
  · rintro e ⟨x5, rfl⟩
    dsimp only
    rw [show ((natI gs).drop 1).length + 1 = n from by rw [List.length_drop, lS]; omega]
    have pat : ∀ g : Nat, g < n → atI ((pwL n).map D.int) (g : Int) = some (.int (pwZ g)) := fun g hg => by
      rw [x_atI (Int.natCast_nonneg g) (by simp [pwL]; omega)]
      simp [pwL, List.getElem?_range, hg]
    obtain ⟨PD, hPD⟩ : ∃ PD, PD = (pwL n).map D.int := ⟨_, rfl⟩
    rw [← hPD] at pat sP ⊢
    obtain ⟨RD, hRD⟩ : ∃ RD, RD = rowsD rs := ⟨_, rfl⟩
    rw [← hRD] at dw ⊢
    have kRs : kidsL .sh RD = rs.map fun r => [(Md.sh, lstI (natI r))] := by rw [hRD]; unfold rowsD kidsL; rw [List.map_map]; rfl
    have lc7 := lc_pure (tgs := [10]) (own := [10]) (test := tYesM) (elt := (opA (kF1 gSum) (aL (lockS 10 (lcM (srcV true (pName 10)) [5] [5] tYesM (capM (pIx (pName 4) (pName 5))))) aNil))) (ev := [some (.sh, SC), some (PEN k'), some (.dp, .lst GD), some (.sh, .lst RD), some (.dp, .lst PD), x5, none, none, none, none, none, none]) (fun r : List Nat => [(Md.sh, lstI (natI r))]) (fun _ => true) (fun r => D.int (rowV r)) (by simp) rs [] (by simp) (fun _ _ => rfl) (fun r hrr _ => by
      have kR : kidsL .sh ((natI r).map D.int) = r.map fun g : Nat => [(Md.dp, D.int (g : Int))] := by rw [kidsL_int]; unfold intsL natI; rw [List.map_map]; rfl
      have rl : r.length ≤ 2 := by rcases hr r hrr with ⟨g, _, rfl⟩ | ⟨g, l, _, _, rfl⟩ <;> simp
      have li := lc_pure (tgs := [5]) (own := [5]) (test := tYesM) (elt := (capM (pIx (pName 4) (pName 5)))) (ev := [some (.sh, SC), some (PEN k'), some (.dp, .lst GD), some (.sh, .lst RD), some (.dp, .lst PD), none, none, none, none, none, some (.sh, lstI (natI r)), none]) (fun g : Nat => [(Md.dp, D.int (g : Int))]) (fun _ => true) (fun g => D.int (pwZ g)) (by simp) r [] (by simp) (fun _ _ => rfl) (fun g hg _ => by
        have pg := pat g (row_lt (hr r hrr) g hg)
        generalize lstI (natI r) = RW at *
        simp [pg]) (by simp) (by rw [List.length_nil]; omega)
      rw [List.nil_append, List.filter_eq_self.mpr (fun _ _ => rfl)] at li
      have em : r.map (fun g => D.int (pwZ g)) = (r.map pwZ).map D.int := by rw [List.map_map]; rfl
      rw [em] at li
      have sr := x_sum (ns := r.map pwZ)
      generalize (r.map pwZ).map D.int = SD at *
      unfold lstI at li ⊢
      generalize (natI r).map D.int = RW at *
      (try simp at li)
      simp [kR, li, sr, rowV]) (by simp) (by rw [List.length_nil]; omega)
    rw [List.nil_append, List.filter_eq_self.mpr (fun _ _ => rfl)] at lc7
    have e7 : rs.map (fun r => D.int (rowV r)) = (rs.map rowV).map D.int := by rw [List.map_map]; rfl
    rw [e7] at lc7
    unfold lstI at co
    have fN : flats ((rs.map rowV).map D.int) = true := flats_int
    have lN : ((rs.map rowV).map D.int).length ≤ 32 := by simp; exact hl
    have eT : gEq (.tup [.lst ((rs.map rowV).map D.int), .int (geo n)]) (.tup [.lst ((rs.map rowV).map D.int), .int (geo n)]) = some (.bl true) := by
      have h1 : plns ((rs.map rowV).map D.int) = true := plns_map (fun _ => rfl) _
      have h2 : dpts ((rs.map rowV).map D.int) ≤ 1 := dpts_map (n := 1) (f := D.int) (fun _ => by simp [dpt]) _
      generalize (rs.map rowV).map D.int = ND at *
      rw [gEq_pl (by simp [pln, plns, h1]) (by simp [pln, plns, h1]) (by simp [dpt, dpts]; omega) (by simp [dpt, dpts]; omega)]
      simp
    have eC := eq_lsts (choF (rs.map rowV) (geo n)) (choF (rs.map rowV) (geo n))
    rw [decide_eq_true rfl] at eC
    have sh := fun (v : List Int) (hv : v ∈ choF (rs.map rowV) (geo n)) => short_ok (ns := rs.map rowV) (v := v) (due := geo n) (by simp; omega) (cm v hv).1.2
    have kC : kidsL .sh ((choF (rs.map rowV) (geo n)).map lstI) = (choF (rs.map rowV) (geo n)).map fun v => [(Md.sh, lstI v)] := by unfold kidsL; rw [List.map_map]; rfl
    obtain ⟨ND, hND⟩ : ∃ ND, ND = (rs.map rowV).map D.int := ⟨_, rfl⟩
    unfold lstI at sh
    rw [← hND] at lc7 co fN lN eT sh
    have zN : ND.length ≤ sizeLine := x_sz (by omega)
    refine wp_step (s := s_law_7) (ev' := [some (.sh, SC), some (PEN k'), some (.dp, .lst GD), some (.sh, .lst RD), some (.dp, .lst PD), x5, some (.dp, .lst ND), none, none, none, none, none]) (by
      (try simp at lc7)
      simp [s_law_7, kRs, lc7]) ?_
    refine wp_step (s := s_law_8) (ev' := [some (.sh, SC), some (PEN k'), some (.dp, .lst GD), some (.sh, .lst RD), some (.dp, .lst PD), x5, some (.sh, .lst ND), some (.sh, .tup [.lst ND, .int (geo n)]), none, none, none, none]) (by simp [s_law_8, sP, fN]) ?_
    refine wp_step (s := s_law_9) (ev' := [some (.sh, SC), some (PEN k'), some (.dp, .lst GD), some (.sh, .lst RD), some (.dp, .lst PD), x5, some (.sh, .lst ND), some (.sh, .tup [.lst ND, .int (geo n)]), some (mW, .lst ((choF (rs.map rowV) (geo n)).map lstI)), none, none, none]) (by
      generalize (choF (rs.map rowV) (geo n)).map lstI = CD at *
      rcases hmW with rfl | rfl <;> simp [s_law_9, lG, dw]) ?_
    refine wp_step (s := s_law_10) (ev' := [some (.sh, SC), some (PEN k'), some (.dp, .lst GD), some (.sh, .lst RD), some (.dp, .lst PD), x5, some (.sh, .lst ND), some (.sh, .tup [.lst ND, .int (geo n)]), some (mW, .lst ((choF (rs.map rowV) (geo n)).map lstI)), some (.dp, .tup [.lst ND, .int (geo n)]), none, none]) (by
      generalize (choF (rs.map rowV) (geo n)).map lstI = CD at *
      simp [s_law_10, fN, zN, seqD]) ?_
    refine wp_step (s := s_law_11) (ev' := [some (.sh, SC), some (PEN k'), some (.dp, .lst GD), some (.sh, .lst RD), some (.dp, .lst PD), x5, some (.sh, .lst ND), some (.sh, .tup [.lst ND, .int (geo n)]), some (mW, .lst ((choF (rs.map rowV) (geo n)).map lstI)), some (.dp, .tup [.lst ND, .int (geo n)]), none, none]) (by
      generalize (choF (rs.map rowV) (geo n)).map lstI = CD at *
      rcases hmW with rfl | rfl <;> simp [s_law_11, co, eC, eT, gNe]) ?_
    have lc13 := lc_pure (tgs := [11]) (own := [11]) (test := tYesM) (elt := (opA (kF2 gEq) (aL (lockS 11 (lockS 7 ((aV (pName 7) (aV (pName 11) aNil)) (callF F_short)))) (aV (pC (.int 0)) aNil)))) (ev := [some (.sh, SC), some (PEN k'), some (.dp, .lst GD), some (.sh, .lst RD), some (.dp, .lst PD), x5, some (.sh, .lst ND), some (.sh, .tup [.lst ND, .int (geo n)]), some (.sh, .lst ((choF (rs.map rowV) (geo n)).map lstI)), some (.dp, .tup [.lst ND, .int (geo n)]), none, none]) (fun v : List Int => [(Md.sh, lstI v)]) (fun _ => true) (fun _ => D.bl true) (by simp) (choF (rs.map rowV) (geo n)) [] (by simp) (fun _ _ => rfl) (fun v hv _ => by
      have s1 := sh v hv
      have c2 := (cm v hv).2
      rw [c2, Int.sub_self] at s1
      generalize (choF (rs.map rowV) (geo n)).map lstI = CD at *
      unfold lstI
      generalize v.map D.int = VD at *
      (try simp at s1)
      simp [s1]) (by simp) (by rw [List.length_nil]; omega)
    rw [List.nil_append, List.filter_eq_self.mpr (fun _ _ => rfl)] at lc13
    have al := blsT (choF (rs.map rowV) (geo n))
    refine wp_rt (r := (.dp, .bl true)) (ev' := [some (.sh, SC), some (PEN k'), some (.dp, .lst GD), some (.sh, .lst RD), some (.dp, .lst PD), x5, some (.sh, .lst ND), some (.sh, .tup [.lst ND, .int (geo n)]), some (.sh, .lst ((choF (rs.map rowV) (geo n)).map lstI)), some (.dp, .tup [.lst ND, .int (geo n)]), none, none]) ?_ ⟨by simp, rfl⟩
    generalize (choF (rs.map rowV) (geo n)).map (fun _ => D.bl true) = BD at *
    generalize (choF (rs.map rowV) (geo n)).map lstI = CD at *
    (try simp at lc13)
    rcases hmW with rfl | rfl <;> simp [s_law_13, kC, lc13, al]

end T6

set_option pp.maxSteps 300
open PySem PySem.W PyProof.Rows
set_option maxHeartbeats 0 in
theorem PySem.Challenge.cw_sixtellings_k36_one_of_each_group_holds : PySem.Challenge.rw_sixtellings_k36_one_of_each_group.Holds := by
  w_on; o_law; k_head; (case hw => w_witness2)
  k_fill
  refine LamX.walk_ofTs (l := PySem.Challenge.rw_sixtellings_k36_one_of_each_group) (n := 63) (k := 4) (x := "_law_script") (CX := fun w => L2.CX PySem.Challenge.rw_sixtellings_k36_one_of_each_group.prog w) rfl (by decide) rfl ⟨rfl, by decide, by decide⟩ (fun w h Y => PySem.W.km_in_of Y) ?F (fun _ _ _ _ _ h => T6.cx_false h)
  case F =>
    intro w mg fa h Y KX G hmg
    have hT8 := PySem.W.km_tabs_of Y
    letI : T6.Tbl := ⟨fun _ => False⟩
    refine' T6.all_mk T6.law_holds KX G hmg ?a0 ?l0 ?c0 ?k0 ?a1 ?l1 ?c1 ?k1 ?a2 ?l2 ?c2 ?k2 ?a3 ?l3 ?c3 ?k3 ?a4 ?l4 ?c4 ?k4 ?a5 ?l5 ?c5 ?k5 ?a6 ?l6 ?c6 ?k6 ?a7 ?l7 ?c7 ?k7 ?a8 ?l8 ?c8 ?k8 ?a9 ?l9 ?c9 ?k9 ?zall ?zenumerate ?zlen ?zlist ?zmax ?zmin ?zrange ?zsorted ?zsum ?zzip ?lcd (hT8 _ List.mem_cons_self) ?lkn ?lhd
    (case a0 => k_is); (case l0 => k_is); (case c0 => k_is); (case k0 => k_is); (case a1 => k_is); (case l1 => k_is); (case c1 => k_is); (case k1 => k_is); (case a2 => k_is); (case l2 => k_is); (case c2 => k_is); (case k2 => k_is); (case a3 => k_is); (case l3 => k_is); (case c3 => k_is); (case k3 => k_is); (case a4 => k_is); (case l4 => k_is); (case c4 => k_is); (case k4 => k_is); (case a5 => k_is); (case l5 => k_is); (case c5 => k_is); (case k5 => k_is); (case a6 => k_is); (case l6 => k_is); (case c6 => k_is); (case k6 => k_is); (case a7 => k_is); (case l7 => k_is); (case c7 => k_is); (case k7 => k_is); (case a8 => k_is); (case l8 => k_is); (case c8 => k_is); (case k8 => k_is); (case a9 => k_is); (case l9 => k_is); (case c9 => k_is); (case k9 => k_is); (case zall => k_is); (case zenumerate => k_is); (case zlen => k_is); (case zlist => k_is); (case zmax => k_is); (case zmin => k_is); (case zrange => k_is); (case zsorted => k_is); (case zsum => k_is); (case zzip => k_is)
    (case lcd => rfl); (case lkn => kernel_rfl); (case lhd => kernel_rfl)


