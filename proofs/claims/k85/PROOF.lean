import PyProof.Rows.All
import Wide.All
import OpenK.AllK
import Wide.FinOn
import HandS.ForMost
import KE.KDictKeyed
import KE.KeyNested
import HandS.Zip
import HandS.Rev
import PyProof.Draws
import KE.GoesMore
import KE.GoesEnum
import KE.SortData
import KE.DataMinMax
import KE.DataEq
import KE.DataFind
import KE.DatumIndex
import KE.DataAny
import HandS.TupAny
import HandS.Wide
import HandS.Gcd
import HandS.IsInst
import HandS.TupMul
import HandS.SortInts
import HandS.Conv
import HandS.Style
import PyProof.SliceList
import KE.KRevSl
import PyProof.MaxThree
import PySem.Challenge.RW_sumwright_k85_whole_moves_and_volumes
set_option Elab.async false
set_option linter.all false
set_option Elab.async false
set_option linter.all false
set_option maxRecDepth 100000
/-! Values without the heap: data D, who owns which list or dict, one frame's slots. -/
namespace VS
open PySem PySem.Spec PyProof.Rows L2

/-- a datum; und: a slot without a value; dct's first field: 0 keys are ints and texts, 1 tuples -/
inductive D where
  | und | non | bl (b : Bool) | int (i : Int) | str (s : Str)
  | tup (xs : List D) | lst (xs : List D) | dct (t : Nat) (ks vs : List D)
  deriving Inhabited

namespace D
mutual
def beq : D → D → Bool
  | und, und => true
  | non, non => true
  | bl a, bl b => a == b
  | int a, int b => decide (a = b)
  | str a, str b => decide (a = b)
  | tup a, tup b => beqL a b
  | lst a, lst b => beqL a b
  | dct s a c, dct t b d => (s == t) && beqL a b && beqL c d
  | und, non | und, bl _ | und, int _ | und, str _ | und, tup _ | und, lst _ | und, dct .. => false
  | non, und | non, bl _ | non, int _ | non, str _ | non, tup _ | non, lst _ | non, dct .. => false
  | bl _, und | bl _, non | bl _, int _ | bl _, str _ | bl _, tup _ | bl _, lst _ | bl _, dct .. => false
  | int _, und | int _, non | int _, bl _ | int _, str _ | int _, tup _ | int _, lst _ | int _, dct .. => false
  | str _, und | str _, non | str _, bl _ | str _, int _ | str _, tup _ | str _, lst _ | str _, dct .. => false
  | tup _, und | tup _, non | tup _, bl _ | tup _, int _ | tup _, str _ | tup _, lst _ | tup _, dct .. => false
  | lst _, und | lst _, non | lst _, bl _ | lst _, int _ | lst _, str _ | lst _, tup _ | lst _, dct .. => false
  | dct .., und | dct .., non | dct .., bl _ | dct .., int _ | dct .., str _ | dct .., tup _ | dct .., lst _ => false
def beqL : List D → List D → Bool
  | [], [] => true
  | a :: as, b :: bs => beq a b && beqL as bs
  | [], _ :: _ => false
  | _ :: _, [] => false
end
mutual
theorem beq_self : ∀ a : D, beq a a = true
  | und => rfl
  | non => rfl
  | bl a => by simp [beq]
  | int a => by simp [beq]
  | str a => by simp [beq]
  | tup a => by rw [beq]; exact beqL_self a
  | lst a => by rw [beq]; exact beqL_self a
  | dct t a b => by rw [beq, beqL_self a, beqL_self b]; simp
theorem beqL_self : ∀ a : List D, beqL a a = true
  | [] => rfl
  | a :: as => by rw [beqL, beq_self a, beqL_self as]; rfl
end
mutual
theorem eq_of_beq : ∀ a b : D, beq a b = true → a = b
  | und, b, h => by cases b <;> simp_all [beq]
  | non, b, h => by cases b <;> simp_all [beq]
  | bl a, b, h => by cases b <;> simp_all [beq]
  | int a, b, h => by cases b <;> simp_all [beq]
  | str a, b, h => by cases b <;> simp_all [beq]
  | tup a, b, h => by
    cases b with
    | tup b => rw [beq] at h; rw [eq_of_beqL a b h]
    | _ => simp [beq] at h
  | lst a, b, h => by
    cases b with
    | lst b => rw [beq] at h; rw [eq_of_beqL a b h]
    | _ => simp [beq] at h
  | dct s a c, b, h => by
    cases b with
    | dct t b d =>
      rw [beq, Bool.and_eq_true, Bool.and_eq_true] at h
      rw [eq_of_beqL a b h.1.2, eq_of_beqL c d h.2, beq_iff_eq.mp h.1.1]
    | _ => simp [beq] at h
theorem eq_of_beqL : ∀ a b : List D, beqL a b = true → a = b
  | [], [], _ => rfl
  | a :: as, b :: bs, h => by
    rw [beqL, Bool.and_eq_true] at h
    rw [eq_of_beq a b h.1, eq_of_beqL as bs h.2]
  | [], _ :: _, h => by simp [beqL] at h
  | _ :: _, [], h => by simp [beqL] at h
end
instance : DecidableEq D := fun a b => if h : beq a b = true then .isTrue (eq_of_beq a b h) else .isFalse fun e => h (e ▸ beq_self a)
theorem beq_eq (a b : D) : beq a b = decide (a = b) := by
  by_cases h : a = b
  · subst h; rw [beq_self]; simp
  · rw [decide_eq_false h]
    cases q : beq a b with
    | false => rfl
    | true => exact absurd (eq_of_beq a b q) h
mutual
/-- a tuple key of a dict: ints, texts, None, tuples of such -/
def toNK : D → Option NestedKey
  | non => some .none
  | int i => some (.num i)
  | str x => some (.text x)
  | tup xs => (toNKs xs).map .tup
  | und | bl _ | lst _ | dct .. => Option.none
def toNKs : List D → Option (List NestedKey)
  | [] => some []
  | d :: ds => (toNK d).bind fun k => (toNKs ds).map fun ks => k :: ks
end
end D

/-- where one stands: the written part, the program, the world -/
structure Wd where
  K : PySem.W.Frag
  prog : Program
  w : World

/-- a dict with tuple keys: its entries' keys, the keys' addresses, the values -/
def dN (G : Wd) (a : Addr) (xs : List (NestedKey × Addr × V)) : HO := .ext fun h => xs.length ≤ sizeLine ∧ (a == sysModules) = false ∧
  ∃ ys : List (NestedKey × Addr × Value), Paired (fun (p : NestedKey × Addr × V) (q : NestedKey × Addr × Value) => p.1 = q.1 ∧ p.2.1 = q.2.1 ∧ RelV p.2.2 q.2.2) xs ys ∧
    ∃ o es ep, h.get? a = some o ∧ o.ExactDict ∧ o.data = .dict es ep ∧ es.toList = ys.map (entryOfKey (nestedKind G.prog G.w)) ∧ (ys.map (·.1)).Nodup
/-- a key as a datum -/
def kD : Key → D
  | .inl i => .int i
  | .inr x => .str x
/-- a dict's object at a: its keys' values and data, its values -/
inductive DicHO (G : Wd) (a : Addr) : Nat → HO → List V → List D → List V → Prop
  | k (kvs : List (Key × V)) : DicHO G a 0 (.dK kvs) (kvs.map fun p => kV p.1) (kvs.map fun p => kD p.1) (kvs.map fun p => p.2)
  | n (xs : List (NestedKey × Addr × V)) (ks : List D) : ks.map D.toNK = xs.map (fun p => some p.1) → DicHO G a 1 (dN G a xs) (xs.map fun p => .ref p.2.1) ks (xs.map fun p => p.2.2)
/-- an object that may be changed -/
def IsM : HO → Prop
  | .lst _ => True
  | .dK _ => True
  | .ext _ => True
  | _ => False
theorem DicHO.isM {G : Wd} {a : Addr} {t : Nat} {u : HO} {kv vs : List V} {ks : List D} (h : DicHO G a t u kv ks vs) : IsM u := by
  cases h <;> trivial

/-- a list of the written part -/
def KL (K : PySem.W.Frag) (a : Addr) (xs : List V) : Prop :=
  ∃ (o : Obj) (its : Array Value) (n : Nat), K.lookup a = some o ∧ o.cls = .type "list" ∧ o.dict = none ∧ o.data = .seq its n ∧ its.size ≤ sizeLine ∧ Vals xs its.toList
/-- a shared list: in P, or one that stands still -/
def ShL (G : Wd) (P : Addr → Prop) (H : Hp) (a : Addr) (xs : List V) : Prop :=
  (P a ∧ H a = some (.lst xs)) ∨ (∃ o, H a = some (.frz o (.lst xs))) ∨ KL G.K a xs
theorem ShL.sq {G : Wd} {P : Addr → Prop} {H : Hp} {a : Addr} {xs : List V} (h : ShL G P H a xs) : SqL G.K H a xs := by
  rcases h with ⟨_, h⟩ | ⟨o, h⟩ | h
  · exact .inl (.inl h)
  · exact .inl (.inr ⟨o, h⟩)
  · exact .inr h

mutual
/-- what v denotes, all lists and dicts in it shared (in P) -/
inductive Den (G : Wd) (P : Addr → Prop) (H : Hp) : V → D → Prop
  | non : Den G P H .non .non
  | bl (b : Bool) : Den G P H (.bl b) (.bl b)
  | int (i : Int) : Den G P H (.int i) (.int i)
  | str (x : Str) : Den G P H (.str x) (.str x)
  | tup {a : Addr} {vs : List V} {ds : List D} : H a = some (.tup vs) → DenL G P H vs ds → Den G P H (.ref a) (.tup ds)
  | lst {a : Addr} {vs : List V} {ds : List D} : ShL G P H a vs → DenL G P H vs ds → Den G P H (.ref a) (.lst ds)
  | dct {a : Addr} {t : Nat} {u : HO} {kv : List V} {ks : List D} {vs : List V} {ds : List D} : P a → H a = some u → DicHO G a t u kv ks vs → DenL G P H kv ks → DenL G P H vs ds → Den G P H (.ref a) (.dct t ks ds)
inductive DenL (G : Wd) (P : Addr → Prop) (H : Hp) : List V → List D → Prop
  | nil : DenL G P H [] []
  | cons {v : V} {vs : List V} {d : D} {ds : List D} : Den G P H v d → DenL G P H vs ds → DenL G P H (v :: vs) (d :: ds)
end

/-- a step of the world: Z is what may change -/
structure Ext (Z : Addr → Prop) (P : Addr → Prop) (H : Hp) (P' : Addr → Prop) (H' : Hp) : Prop where
  mono : ∀ a, P a → P' a
  newP : ∀ a, P' a → P a ∨ H a = none ∨ Z a
  frame : ∀ a o, H a = some o → ¬ Z a → H' a = some o
  there : ∀ a, H a ≠ none → H' a ≠ none
  zm : ∀ a, Z a → ∃ u, H a = some u ∧ IsM u
  zp : ∀ a, Z a → ¬ P a
  pt : (∀ a, P a → ∃ u, H a = some u ∧ IsM u) → ∀ a, P' a → ∃ u, H' a = some u ∧ IsM u

section
variable {G : Wd} {P P' P1 P2 : Addr → Prop} {H H' H1 H2 : Hp} {Z Z1 : Addr → Prop}
theorem Ext.keepM (E : Ext Z P H P' H') {a : Addr} {o : HO} (h : H a = some o) (n : ¬ IsM o) : H' a = some o := E.frame a o h fun z => by
  obtain ⟨u, q, m⟩ := E.zm a z
  rw [h] at q; cases q; exact n m
theorem Ext.keepP (E : Ext Z P H P' H') {a : Addr} {o : HO} (h : H a = some o) (p : P a) : H' a = some o := E.frame a o h fun z => E.zp a z p
theorem ShL.ext (E : Ext Z P H P' H') {a : Addr} {xs : List V} (h : ShL G P H a xs) : ShL G P' H' a xs := by
  rcases h with ⟨p, h⟩ | ⟨o, h⟩ | h
  · exact .inl ⟨E.mono a p, E.keepP h p⟩
  · exact .inr (.inl ⟨o, E.keepM h id⟩)
  · exact .inr (.inr h)
mutual
theorem Den.ext (E : Ext Z P H P' H') : ∀ {v : V} {d : D}, Den G P H v d → Den G P' H' v d
  | _, _, .non => .non
  | _, _, .bl b => .bl b
  | _, _, .int i => .int i
  | _, _, .str x => .str x
  | _, _, .tup h r => .tup (E.keepM h id) (DenL.ext E r)
  | _, _, .lst h r => .lst (h.ext E) (DenL.ext E r)
  | _, _, .dct p h k r q => .dct (E.mono _ p) (E.keepP h p) k (DenL.ext E r) (DenL.ext E q)
theorem DenL.ext (E : Ext Z P H P' H') : ∀ {vs : List V} {ds : List D}, DenL G P H vs ds → DenL G P' H' vs ds
  | _, _, .nil => .nil
  | _, _, .cons h r => .cons (Den.ext E h) (DenL.ext E r)
end
theorem Ext.refl (zm : ∀ a, Z a → ∃ u, H a = some u ∧ IsM u) (zp : ∀ a, Z a → ¬ P a) : Ext Z P H P H :=
  ⟨fun _ h => h, fun _ h => .inl h, fun _ _ h _ => h, fun _ h => h, zm, zp, fun h => h⟩
theorem Ext.refl0 : Ext (fun _ => False) P H P H := .refl (fun _ h => h.elim) fun _ h => h.elim
theorem Ext.trans (a : Ext Z P H P1 H1) (b : Ext Z1 P1 H1 P2 H2) (hz : ∀ c, Z1 c → Z c ∨ H c = none) : Ext Z P H P2 H2 where
  mono := fun c h => b.mono c (a.mono c h)
  newP := fun c h => by
    rcases b.newP c h with q | q | q
    · exact a.newP c q
    · refine .inr (.inl ?_)
      cases e : H c with
      | none => rfl
      | some o => exact absurd q (a.there c (by rw [e]; simp))
    · rcases hz c q with r | r
      · exact .inr (.inr r)
      · exact .inr (.inl r)
  frame := fun c o h n => b.frame c o (a.frame c o h n) fun q => by
    rcases hz c q with r | r
    · exact n r
    · rw [h] at r; cases r
  there := fun c h => b.there c (a.there c h)
  zm := a.zm
  zp := a.zp
  pt := fun h => b.pt (a.pt h)
/-- Z may grow -/
theorem Ext.more (a : Ext Z P H P1 H1) (h : ∀ c, Z c → Z1 c) (zm : ∀ a, Z1 a → ∃ u, H a = some u ∧ IsM u) (zp : ∀ a, Z1 a → ¬ P a) : Ext Z1 P H P1 H1 :=
  ⟨a.mono, fun c q => (a.newP c q).imp id (.imp id (h c)), fun c o q n => a.frame c o q fun z => n (h c z), a.there, zm, zp, a.pt⟩
/-- new objects alone -/
theorem Ext.new (h : ∀ a o, H a = some o → H' a = some o) : Ext (fun _ => False) P H P H' :=
  ⟨fun _ h => h, fun _ h => .inl h, fun a o q _ => h a o q, fun a q => by
    cases e : H a with
    | none => exact absurd e q
    | some o => rw [h a o e]; simp, fun _ h => h.elim, fun _ h => h.elim, fun p a q => let ⟨u, e, m⟩ := p a q; ⟨u, h a u e, m⟩⟩
/-- more is shared -/
theorem Ext.share (Z : Addr → Prop) (zm : ∀ a, Z a → ∃ u, H a = some u ∧ IsM u) (zp : ∀ a, Z a → ¬ P a) : Ext Z P H (fun a => P a ∨ Z a) H :=
  ⟨fun _ h => .inl h, fun _ h => h.imp id .inr, fun _ _ h _ => h, fun _ h => h, zm, zp, fun p a h => h.elim (p a) (zm a)⟩
theorem DenL.length : ∀ {vs : List V} {ds : List D}, DenL G P H vs ds → vs.length = ds.length
  | _, _, .nil => rfl
  | _, _, .cons _ r => by rw [List.length_cons, List.length_cons, r.length]
theorem DenL.get : ∀ {vs : List V} {ds : List D} {i : Nat} {d : D}, DenL G P H vs ds → ds[i]? = some d → ∃ v, vs[i]? = some v ∧ Den G P H v d
  | _, _, _, _, .nil, e => by simp at e
  | _, _, 0, _, .cons h _, e => by simp at e; subst e; exact ⟨_, rfl, h⟩
  | _, _, i + 1, d, .cons _ r, e => by
    obtain ⟨v, h1, h2⟩ := DenL.get (i := i) (d := d) r (by simpa using e)
    exact ⟨v, by simpa using h1, h2⟩
theorem DenL.getV : ∀ {vs : List V} {ds : List D} {i : Nat} {v : V}, DenL G P H vs ds → vs[i]? = some v → ∃ d, ds[i]? = some d ∧ Den G P H v d
  | _, _, _, _, .nil, e => by simp at e
  | _, _, 0, _, .cons h _, e => by simp at e; subst e; exact ⟨_, rfl, h⟩
  | _, _, i + 1, d, .cons _ r, e => by
    obtain ⟨v, h1, h2⟩ := DenL.getV (i := i) (v := d) r (by simpa using e)
    exact ⟨v, by simpa using h1, h2⟩
theorem DenL.append : ∀ {vs ws : List V} {ds es : List D}, DenL G P H vs ds → DenL G P H ws es → DenL G P H (vs ++ ws) (ds ++ es)
  | _, _, _, _, .nil, s => s
  | _, _, _, _, .cons h t, s => .cons h (t.append s)
theorem DenL.take : ∀ {vs : List V} {ds : List D} (n : Nat), DenL G P H vs ds → DenL G P H (vs.take n) (ds.take n)
  | _, _, 0, _ => .nil
  | _, _, _ + 1, .nil => .nil
  | _, _, n + 1, .cons h t => .cons h (t.take n)
theorem DenL.drop : ∀ {vs : List V} {ds : List D} (n : Nat), DenL G P H vs ds → DenL G P H (vs.drop n) (ds.drop n)
  | _, _, 0, r => r
  | _, _, _ + 1, .nil => .nil
  | _, _, n + 1, .cons _ t => t.drop n
theorem DenL.reverse {vs : List V} {ds : List D} (h : DenL G P H vs ds) : DenL G P H vs.reverse ds.reverse := by
  induction h using DenL.rec (motive_1 := fun _ _ _ => True) with
  | nil => exact .nil
  | cons h _ _ ih => rw [List.reverse_cons, List.reverse_cons]; exact ih.append (.cons h .nil)
  | _ => trivial
theorem DenL.set : ∀ {vs : List V} {ds : List D} (i : Nat) {v : V} {d : D}, DenL G P H vs ds → Den G P H v d → DenL G P H (vs.set i v) (ds.set i d)
  | _, _, _, _, _, .nil, _ => .nil
  | _, _, 0, _, _, .cons _ t, h => .cons h t
  | _, _, i + 1, _, _, .cons q t, h => .cons q (t.set i h)
theorem DenL.eraseIdx : ∀ {vs : List V} {ds : List D} (i : Nat), DenL G P H vs ds → DenL G P H (vs.eraseIdx i) (ds.eraseIdx i)
  | _, _, _, .nil => .nil
  | _, _, 0, .cons _ t => t
  | _, _, i + 1, .cons q t => .cons q (t.eraseIdx i)
theorem DenL.dropLast {vs : List V} {ds : List D} (h : DenL G P H vs ds) : DenL G P H vs.dropLast ds.dropLast := by
  rw [List.dropLast_eq_take, List.dropLast_eq_take, h.length]; exact h.take _
/-- the datum of a value is one -/
theorem Den.ne_und {v : V} (h : Den G P H v .und) : False := by cases h
end
end VS

set_option Elab.async false
set_option linter.all false
set_option maxRecDepth 100000
namespace VS
open PySem PySem.Spec PyProof.Rows L2

/-- three lists abreast -/
inductive Tri (R : V → D → List Addr → Prop) : List V → List D → List (List Addr) → Prop
  | nil : Tri R [] [] []
  | cons {v : V} {d : D} {F : List Addr} {vs : List V} {ds : List D} {Fs : List (List Addr)} : R v d F → Tri R vs ds Fs → Tri R (v :: vs) (d :: ds) (F :: Fs)
/-- v denotes d; the lists and dicts down to a depth are owned: they stand at F -/
def OwnK (G : Wd) (P : Addr → Prop) (H : Hp) : Nat → V → D → List Addr → Prop
  | 0, v, d, F => Den G P H v d ∧ F = []
  | n + 1, v, d, F => match d with
    | .lst ds => ∃ a vs Fs, v = .ref a ∧ H a = some (.lst vs) ∧ Tri (OwnK G P H n) vs ds Fs ∧ F = a :: Fs.flatten
    | .dct t ks ds => ∃ a u kv vs Fs, v = .ref a ∧ H a = some u ∧ DicHO G a t u kv ks vs ∧ DenL G P H kv ks ∧ Tri (OwnK G P H n) vs ds Fs ∧ F = a :: Fs.flatten
    | d => Den G P H v d ∧ F = []
/-- neither a list nor a dict -/
def D.flat : D → Bool
  | .lst _ => false
  | .dct .. => false
  | _ => true

section
variable {G : Wd} {P P' P1 P2 : Addr → Prop} {H H' H1 H2 : Hp} {Z Z1 : Addr → Prop}
theorem Tri.imp {R R' : V → D → List Addr → Prop} {vs : List V} {ds : List D} {Fs : List (List Addr)} (t : Tri R vs ds Fs) (h : ∀ v d F, F ∈ Fs → R v d F → R' v d F) : Tri R' vs ds Fs := by
  induction t with
  | nil => exact .nil
  | cons r _ ih => exact .cons (h _ _ _ List.mem_cons_self r) (ih fun v d F m => h v d F (List.mem_cons_of_mem _ m))
theorem Tri.length {R : V → D → List Addr → Prop} {vs : List V} {ds : List D} {Fs : List (List Addr)} (t : Tri R vs ds Fs) : vs.length = ds.length ∧ Fs.length = ds.length := by
  induction t with
  | nil => exact ⟨rfl, rfl⟩
  | cons r _ ih => simp only [List.length_cons]; omega
theorem Tri.get {R : V → D → List Addr → Prop} {vs : List V} {ds : List D} {Fs : List (List Addr)} (t : Tri R vs ds Fs) : ∀ {i : Nat} {d : D}, ds[i]? = some d → ∃ v F, vs[i]? = some v ∧ Fs[i]? = some F ∧ R v d F := by
  induction t with
  | nil => intro i d e; simp at e
  | cons r _ ih =>
    intro i d e
    cases i with
    | zero => simp at e; subst e; exact ⟨_, _, rfl, rfl, r⟩
    | succ i =>
      obtain ⟨v, F, h1, h2, h3⟩ := ih (i := i) (d := d) (by simpa using e)
      exact ⟨v, F, by simpa using h1, by simpa using h2, h3⟩
theorem Tri.append {R : V → D → List Addr → Prop} {vs ws : List V} {ds es : List D} {Fs Gs : List (List Addr)} (t : Tri R vs ds Fs) (u : Tri R ws es Gs) : Tri R (vs ++ ws) (ds ++ es) (Fs ++ Gs) := by
  induction t with
  | nil => exact u
  | cons r _ ih => exact .cons r ih
theorem OwnK.flat {n : Nat} {v : V} {d : D} {F : List Addr} (h : Den G P H v d) (hf : d.flat = true) : OwnK G P H n v d [] := by
  cases n with
  | zero => exact ⟨h, rfl⟩
  | succ n => cases d <;> first | exact ⟨h, rfl⟩ | cases hf
theorem OwnK.of_flat {n : Nat} {v : V} {d : D} {F : List Addr} (h : OwnK G P H n v d F) (hf : d.flat = true) : Den G P H v d ∧ F = [] := by
  cases n with
  | zero => exact h
  | succ n => cases d <;> first | exact h | cases hf
theorem OwnK.isM : ∀ {n : Nat} {v : V} {d : D} {F : List Addr}, OwnK G P H n v d F → ∀ a ∈ F, ∃ u, H a = some u ∧ IsM u
  | 0, _, _, _, h, a, m => by rw [h.2] at m; cases m
  | n + 1, v, d, F, h, a, m => by
    have all : ∀ {vs : List V} {ds : List D} {Fs : List (List Addr)}, Tri (OwnK G P H n) vs ds Fs → ∀ a ∈ Fs.flatten, ∃ u, H a = some u ∧ IsM u := by
      intro vs ds Fs t
      induction t with
      | nil => intro a m; simp at m
      | cons r _ ih =>
        intro a m
        rw [List.flatten_cons, List.mem_append] at m
        exact m.elim (OwnK.isM r a) (ih a)
    cases d with
    | lst ds =>
      obtain ⟨b, vs, Fs, rfl, e, t, rfl⟩ := h
      rcases List.mem_cons.mp m with rfl | m
      · exact ⟨_, e, trivial⟩
      · exact all t a m
    | dct t ks ds =>
      obtain ⟨b, u, kv, vs, Fs, rfl, e, k, _, t, rfl⟩ := h
      rcases List.mem_cons.mp m with rfl | m
      · exact ⟨_, e, k.isM⟩
      · exact all t a m
    | _ => rw [h.2] at m; cases m
theorem mem_flat {a : Addr} {F : List Addr} {Fs : List (List Addr)} (h : F ∈ Fs) (m : a ∈ F) : a ∈ Fs.flatten := List.mem_flatten.mpr ⟨F, h, m⟩
theorem OwnK.ext (E : Ext Z P H P' H') : ∀ {n : Nat} {v : V} {d : D} {F : List Addr}, OwnK G P H n v d F → (∀ a ∈ F, ¬ Z a) → OwnK G P' H' n v d F
  | 0, _, _, _, h, _ => ⟨h.1.ext E, h.2⟩
  | n + 1, v, d, F, h, z => by
    cases d with
    | lst ds =>
      obtain ⟨b, vs, Fs, rfl, e, t, rfl⟩ := h
      exact ⟨b, vs, Fs, rfl, E.frame b _ e (z b List.mem_cons_self), t.imp fun v d F m r => OwnK.ext E r fun a ha => z a (List.mem_cons_of_mem _ (mem_flat m ha)), rfl⟩
    | dct t ks ds =>
      obtain ⟨b, u, kv, vs, Fs, rfl, e, k, q, t, rfl⟩ := h
      exact ⟨b, u, kv, vs, Fs, rfl, E.frame b _ e (z b List.mem_cons_self), k, q.ext E, t.imp fun v d F m r => OwnK.ext E r fun a ha => z a (List.mem_cons_of_mem _ (mem_flat m ha)), rfl⟩
    | _ => exact ⟨h.1.ext E, h.2⟩
mutual
/-- all that is owned becomes shared -/
theorem OwnK.share (E : Ext Z P H P' H') : ∀ {n : Nat} {v : V} {d : D} {F : List Addr}, OwnK G P H n v d F → (∀ a ∈ F, P' a ∧ ∀ u, H a = some u → H' a = some u) → Den G P' H' v d
  | 0, _, _, _, h, _ => h.1.ext E
  | n + 1, v, .lst ds, F, h, z => by
    obtain ⟨b, vs, Fs, rfl, e, t, rfl⟩ := h
    exact .lst (.inl ⟨(z b List.mem_cons_self).1, (z b List.mem_cons_self).2 _ e⟩) (OwnK.shareL E t fun a ha => z a (List.mem_cons_of_mem _ ha))
  | n + 1, v, .dct t ks ds, F, h, z => by
    obtain ⟨b, u, kv, vs, Fs, rfl, e, k, q, t, rfl⟩ := h
    exact .dct (z b List.mem_cons_self).1 ((z b List.mem_cons_self).2 _ e) k (q.ext E) (OwnK.shareL E t fun a ha => z a (List.mem_cons_of_mem _ ha))
  | n + 1, _, .und, _, h, _ => h.1.ext E
  | n + 1, _, .non, _, h, _ => h.1.ext E
  | n + 1, _, .bl _, _, h, _ => h.1.ext E
  | n + 1, _, .int _, _, h, _ => h.1.ext E
  | n + 1, _, .str _, _, h, _ => h.1.ext E
  | n + 1, _, .tup _, _, h, _ => h.1.ext E
theorem OwnK.shareL (E : Ext Z P H P' H') : ∀ {n : Nat} {vs : List V} {ds : List D} {Fs : List (List Addr)}, Tri (OwnK G P H n) vs ds Fs → (∀ a ∈ Fs.flatten, P' a ∧ ∀ u, H a = some u → H' a = some u) → DenL G P' H' vs ds
  | _, _, _, _, .nil, _ => .nil
  | _, _, _, _, .cons r t, z => .cons (OwnK.share E r fun a ha => z a (by rw [List.flatten_cons]; exact List.mem_append_left _ ha)) (OwnK.shareL E t fun a ha => z a (by rw [List.flatten_cons]; exact List.mem_append_right _ ha))
end
/-- read under a wider P -/
theorem OwnK.view {n : Nat} {v : V} {d : D} {F : List Addr} (h : OwnK G P H n v d F) (hF : ∀ a ∈ F, ¬ P a) : Den G (fun a => P a ∨ a ∈ F) H v d :=
  OwnK.share (Ext.share (fun a => a ∈ F) h.isM hF) h fun a ha => ⟨.inr ha, fun _ e => e⟩
theorem OwnK.ne_und {n : Nat} {v : V} {F : List Addr} (h : OwnK G P H n v .und F) : False := by
  cases n with
  | zero => exact h.1.ne_und
  | succ n => exact (show Den G P H v .und ∧ F = [] from h).1.ne_und
/-- children of kind 0 -/
theorem Tri.den {vs : List V} {ds : List D} {Fs : List (List Addr)} (t : Tri (OwnK G P H 0) vs ds Fs) : DenL G P H vs ds ∧ Fs.flatten = [] := by
  induction t with
  | nil => exact ⟨.nil, rfl⟩
  | cons r _ ih => exact ⟨.cons r.1 ih.1, by rw [List.flatten_cons, r.2, ih.2]; rfl⟩
theorem Tri.of_den {vs : List V} {ds : List D} (h : DenL G P H vs ds) : ∃ Fs, Tri (OwnK G P H 0) vs ds Fs ∧ Fs.flatten = [] := by
  induction h using DenL.rec (motive_1 := fun _ _ _ => True) with
  | nil => exact ⟨[], .nil, rfl⟩
  | cons h _ _ ih =>
    obtain ⟨Fs, t, e⟩ := ih
    exact ⟨[] :: Fs, .cons ⟨h, rfl⟩ t, by rw [List.flatten_cons, e]; rfl⟩
  | _ => trivial
theorem OwnK.lst1 {a : Addr} {vs : List V} {ds : List D} (e : H a = some (.lst vs)) (h : DenL G P H vs ds) : OwnK G P H 1 (.ref a) (.lst ds) [a] := by
  obtain ⟨Fs, t, e2⟩ := Tri.of_den h
  exact ⟨a, vs, Fs, rfl, e, t, by rw [e2]⟩
theorem OwnK.of1 {v : V} {ds : List D} {F : List Addr} (h : OwnK G P H 1 v (.lst ds) F) : ∃ a vs, v = .ref a ∧ H a = some (.lst vs) ∧ DenL G P H vs ds ∧ F = [a] := by
  obtain ⟨a, vs, Fs, rfl, e, t, rfl⟩ := h
  exact ⟨a, vs, rfl, e, t.den.1, by rw [t.den.2]⟩

/-! ### one frame's slots -/
structure Rep (G : Wd) (P : Addr → Prop) (H : Hp) (σ : L2.St) (ρ : List D) (κ : List Nat) (Fs : Nat → List Addr) : Prop where
  len : σ.length = ρ.length
  lenk : κ.length = ρ.length
  at_ : ∀ i d, ρ[i]? = some d → d ≠ .und → ∃ v, σ[i]? = some (some v) ∧ OwnK G P H (κ.getD i 0) v d (Fs i)
  un : ∀ i, (∀ d, ρ[i]? = some d → d = .und) → Fs i = []
  dj : ∀ i j a, a ∈ Fs i → a ∈ Fs j → i = j
  nd : ∀ i, (Fs i).Nodup
  np : ∀ i a, a ∈ Fs i → ¬ P a
  pt : ∀ a, P a → ∃ u, H a = some u ∧ IsM u
/-- what the slots T own -/
def Zt (T : List Nat) (Fs : Nat → List Addr) : Addr → Prop := fun a => ∃ i, i ∈ T ∧ a ∈ Fs i
def setF (Fs : Nat → List Addr) (i : Nat) (F : List Addr) : Nat → List Addr := fun j => if j = i then F else Fs j
theorem setF_same {Fs : Nat → List Addr} {i : Nat} {F : List Addr} : setF Fs i F i = F := by unfold setF; rw [if_pos rfl]
theorem setF_ne {Fs : Nat → List Addr} {i j : Nat} {F : List Addr} (h : j ≠ i) : setF Fs i F j = Fs j := by unfold setF; rw [if_neg h]
variable {σ : L2.St} {ρ : List D} {κ : List Nat} {Fs : Nat → List Addr}
theorem Rep.some (R : Rep G P H σ ρ κ Fs) {i : Nat} {a : Addr} (m : a ∈ Fs i) : ∃ d v, ρ[i]? = .some d ∧ d ≠ .und ∧ σ[i]? = .some (.some v) ∧ OwnK G P H (κ.getD i 0) v d (Fs i) := by
  cases e : ρ[i]? with
  | none => rw [R.un i (by intro d h; rw [e] at h; cases h)] at m; cases m
  | some d =>
    by_cases hd : d = .und
    · rw [R.un i (by intro d' h; rw [e] at h; cases h; exact hd)] at m; cases m
    · obtain ⟨v, h1, h2⟩ := R.at_ i d e hd
      exact ⟨d, v, rfl, hd, h1, h2⟩
theorem Rep.isM (R : Rep G P H σ ρ κ Fs) {i : Nat} {a : Addr} (m : a ∈ Fs i) : ∃ u, H a = .some u ∧ IsM u := by
  obtain ⟨_, _, _, _, _, h⟩ := R.some m
  exact h.isM a m
theorem Rep.zm (R : Rep G P H σ ρ κ Fs) (T : List Nat) : ∀ a, Zt T Fs a → ∃ u, H a = .some u ∧ IsM u := fun _ ⟨_, _, m⟩ => R.isM m
theorem Rep.zp (R : Rep G P H σ ρ κ Fs) (T : List Nat) : ∀ a, Zt T Fs a → ¬ P a := fun _ ⟨_, _, m⟩ => R.np _ _ m
theorem Rep.fresh (R : Rep G P H σ ρ κ Fs) {a : Addr} (h : H a = none) : ¬ P a ∧ ∀ i, a ∉ Fs i :=
  ⟨fun p => (by obtain ⟨u, e, _⟩ := R.pt a p; rw [h] at e; cases e), fun i m => (by obtain ⟨u, e, _⟩ := R.isM m; rw [h] at e; cases e)⟩
theorem Rep.ext (R : Rep G P H σ ρ κ Fs) (E : Ext Z P H P' H') (hz : ∀ i a, a ∈ Fs i → ¬ Z a) : Rep G P' H' σ ρ κ Fs :=
  ⟨R.len, R.lenk, fun i d e hd => let ⟨v, h1, h2⟩ := R.at_ i d e hd; ⟨v, h1, h2.ext E (hz i)⟩, R.un, R.dj, R.nd, fun i a m p => by
    rcases E.newP a p with q | q | q
    · exact R.np i a m q
    · obtain ⟨u, e, _⟩ := R.isM m; rw [q] at e; cases e
    · exact hz i a m q, E.pt R.pt⟩
/-- a slot stored -/
theorem Rep.set (R : Rep G P H σ ρ κ Fs) {i k : Nat} {v : V} {d : D} {F : List Addr} (hk : i < κ.length) (o : OwnK G P H k v d F) (nd : F.Nodup) (np : ∀ a ∈ F, ¬ P a) (dj : ∀ j, j ≠ i → ∀ a ∈ F, a ∉ Fs j) :
    Rep G P H (σ.set i (.some v)) (ρ.set i d) (κ.set i k) (setF Fs i F) := by
  have hi : i < ρ.length := R.lenk ▸ hk
  refine ⟨by simp [R.len], by simp [R.lenk], fun j e hj hu => ?_, fun j h => ?_, fun j l a h1 h2 => ?_, fun j => ?_, fun j a m => ?_, R.pt⟩
  · by_cases q : j = i
    · subst q
      rw [List.getElem?_set_self hi] at hj
      cases hj
      refine ⟨v, by rw [List.getElem?_set_self (by rw [R.len]; exact hi)], ?_⟩
      rw [setF_same, List.getD_eq_getElem?_getD, List.getElem?_set_self hk]
      exact o
    · rw [List.getElem?_set_ne (Ne.symm q)] at hj
      obtain ⟨u, h1, h2⟩ := R.at_ j e hj hu
      refine ⟨u, by rw [List.getElem?_set_ne (Ne.symm q)]; exact h1, ?_⟩
      rw [setF_ne q, List.getD_eq_getElem?_getD, List.getElem?_set_ne (Ne.symm q), ← List.getD_eq_getElem?_getD]
      exact h2
  · by_cases q : j = i
    · subst q
      have := h d (List.getElem?_set_self hi)
      subst this
      exact o.ne_und.elim
    · rw [setF_ne q]
      exact R.un j fun d' e => h d' (by rw [List.getElem?_set_ne (Ne.symm q)]; exact e)
  · by_cases q : j = i
    · by_cases r : l = i
      · rw [q, r]
      · rw [q, setF_same] at h1
        rw [setF_ne r] at h2
        exact absurd h2 (dj l r a h1)
    · by_cases r : l = i
      · rw [r, setF_same] at h2
        rw [setF_ne q] at h1
        exact absurd h1 (dj j q a h2)
      · rw [setF_ne q] at h1
        rw [setF_ne r] at h2
        exact R.dj j l a h1 h2
  · by_cases q : j = i
    · rw [q, setF_same]; exact nd
    · rw [setF_ne q]; exact R.nd j
  · by_cases q : j = i
    · rw [q, setF_same] at m; exact np a m
    · rw [setF_ne q] at m; exact R.np j a m
/-- a slot's datum changed in place: the same value -/
theorem Rep.put (R : Rep G P H σ ρ κ Fs) {i : Nat} {v : V} {d : D} {F : List Addr} (hv : σ[i]? = .some (.some v)) (hi : i < ρ.length) (o : OwnK G P H (κ.getD i 0) v d F) (nd : F.Nodup) (np : ∀ a ∈ F, ¬ P a) (dj : ∀ j, j ≠ i → ∀ a ∈ F, a ∉ Fs j) :
    Rep G P H σ (ρ.set i d) κ (setF Fs i F) := by
  refine ⟨by simp [R.len], by simp [R.lenk], fun j e hj hu => ?_, fun j h => ?_, fun j l a h1 h2 => ?_, fun j => ?_, fun j a m => ?_, R.pt⟩
  · by_cases q : j = i
    · subst q
      rw [List.getElem?_set_self hi] at hj
      cases hj
      exact ⟨v, hv, by rw [setF_same]; exact o⟩
    · rw [List.getElem?_set_ne (Ne.symm q)] at hj
      obtain ⟨u, h1, h2⟩ := R.at_ j e hj hu
      exact ⟨u, h1, by rw [setF_ne q]; exact h2⟩
  · by_cases q : j = i
    · subst q
      have := h d (List.getElem?_set_self hi)
      subst this
      exact o.ne_und.elim
    · rw [setF_ne q]
      exact R.un j fun d' e => h d' (by rw [List.getElem?_set_ne (Ne.symm q)]; exact e)
  · by_cases q : j = i
    · by_cases r : l = i
      · rw [q, r]
      · rw [q, setF_same] at h1
        rw [setF_ne r] at h2
        exact absurd h2 (dj l r a h1)
    · by_cases r : l = i
      · rw [r, setF_same] at h2
        rw [setF_ne q] at h1
        exact absurd h1 (dj j q a h2)
      · rw [setF_ne q] at h1
        rw [setF_ne r] at h2
        exact R.dj j l a h1 h2
  · by_cases q : j = i
    · rw [q, setF_same]; exact nd
    · rw [setF_ne q]; exact R.nd j
  · by_cases q : j = i
    · rw [q, setF_same] at m; exact np a m
    · rw [setF_ne q] at m; exact R.np j a m
/-- a slot forgotten -/
theorem Rep.kill (R : Rep G P H σ ρ κ Fs) (i k : Nat) : Rep G P H σ (ρ.set i .und) (κ.set i k) (setF Fs i []) := by
  refine ⟨by simp [R.len], by simp [R.lenk], fun j e hj hu => ?_, fun j h => ?_, fun j l a h1 h2 => ?_, fun j => ?_, fun j a m => ?_, R.pt⟩
  · by_cases q : j = i
    · subst q
      by_cases hl : j < ρ.length
      · rw [List.getElem?_set_self hl] at hj
        cases hj
        exact absurd rfl hu
      · rw [List.getElem?_eq_none (by simpa using hl)] at hj
        cases hj
    · rw [List.getElem?_set_ne (Ne.symm q)] at hj
      obtain ⟨u, h1, h2⟩ := R.at_ j e hj hu
      refine ⟨u, h1, ?_⟩
      rw [setF_ne q, List.getD_eq_getElem?_getD, List.getElem?_set_ne (Ne.symm q), ← List.getD_eq_getElem?_getD]
      exact h2
  · by_cases q : j = i
    · rw [q, setF_same]
    · rw [setF_ne q]
      exact R.un j fun d' e => h d' (by rw [List.getElem?_set_ne (Ne.symm q)]; exact e)
  · by_cases q : j = i
    · rw [q, setF_same] at h1; cases h1
    · by_cases r : l = i
      · rw [r, setF_same] at h2; cases h2
      · rw [setF_ne q] at h1
        rw [setF_ne r] at h2
        exact R.dj j l a h1 h2
  · by_cases q : j = i
    · rw [q, setF_same]; exact List.nodup_nil
    · rw [setF_ne q]; exact R.nd j
  · by_cases q : j = i
    · rw [q, setF_same] at m; cases m
    · rw [setF_ne q] at m; exact R.np j a m
/-- a slot becomes shared -/
theorem Rep.freeze (R : Rep G P H σ ρ κ Fs) (i : Nat) : Rep G (fun a => P a ∨ a ∈ Fs i) H σ ρ (κ.set i 0) (setF Fs i []) ∧ Ext (fun a => a ∈ Fs i) P H (fun a => P a ∨ a ∈ Fs i) H := by
  have E : Ext (fun a => a ∈ Fs i) P H (fun a => P a ∨ a ∈ Fs i) H := Ext.share _ (fun a m => R.isM m) (R.np i)
  refine ⟨⟨R.len, by simp [R.lenk], fun j d e hd => ?_, fun j h => ?_, fun j l a h1 h2 => ?_, fun j => ?_, fun j a m => ?_, E.pt R.pt⟩, E⟩
  · obtain ⟨v, h1, h2⟩ := R.at_ j d e hd
    refine ⟨v, h1, ?_⟩
    by_cases q : j = i
    · subst q
      have hd : (κ.set j 0).getD j 0 = 0 := by
        rw [List.getD_eq_getElem?_getD]
        by_cases hk : j < κ.length
        · rw [List.getElem?_set_self hk]; rfl
        · rw [List.getElem?_eq_none (by simpa using hk)]; rfl
      rw [setF_same, hd]
      exact ⟨OwnK.share E h2 fun a ha => ⟨.inr ha, fun _ e => e⟩, rfl⟩
    · rw [setF_ne q, List.getD_eq_getElem?_getD, List.getElem?_set_ne (Ne.symm q), ← List.getD_eq_getElem?_getD]
      exact h2.ext E fun a ha hb => q (R.dj j i a ha hb)
  · by_cases q : j = i
    · rw [q, setF_same]
    · rw [setF_ne q]; exact R.un j h
  · by_cases q : j = i
    · rw [q, setF_same] at h1; cases h1
    · by_cases r : l = i
      · rw [r, setF_same] at h2; cases h2
      · rw [setF_ne q] at h1
        rw [setF_ne r] at h2
        exact R.dj j l a h1 h2
  · by_cases q : j = i
    · rw [q, setF_same]; exact List.nodup_nil
    · rw [setF_ne q]; exact R.nd j
  · by_cases q : j = i
    · rw [q, setF_same] at m; cases m
    · rw [setF_ne q] at m
      rintro (p | p)
      · exact R.np j a m p
      · exact q (R.dj j i a m p)
end
end VS

set_option Elab.async false
set_option linter.all false
set_option maxRecDepth 100000
namespace VS
open PySem PySem.Spec PyProof.Rows L2

/-- the world of a context -/
abbrev gd (X : Cx) : Wd := ⟨X.K, X.prog, X.w⟩
abbrev Sem0 := List D → Option (D × List D)
/-- what follows an expression: its value v of datum d, new and owned at F; T: the slots that it may have changed -/
def Res (G : Wd) (T κ : List Nat) (k : Nat) (P : Addr → Prop) (H : Hp) (Fs : Nat → List Addr) (σ : L2.St) (ρ ρ' : List D) (d : D) (Q : VK) : Prop :=
  ∀ (v : V) (H' : Hp) (P' : Addr → Prop) (F : List Addr) (Fs' : Nat → List Addr), Rep G P' H' σ ρ' κ Fs' → OwnK G P' H' k v d F → F.Nodup → (∀ a ∈ F, ¬ P' a ∧ H a = none ∧ ∀ i, a ∉ Fs' i) →
    Ext (Zt T Fs) P H P' H' → (∀ i, i ∉ T → Fs' i = Fs i ∧ ρ'[i]? = ρ[i]?) → (∀ i a, a ∈ Fs' i → a ∈ Fs i ∨ H a = none) → Q v H'
def tV (G : Wd) (T κ : List Nat) (k : Nat) (f : Sem0) : TE := fun σ H Q => ∃ P ρ Fs d ρ', Rep G P H σ ρ κ Fs ∧ f ρ = some (d, ρ') ∧ Res G T κ k P H Fs σ ρ ρ' d Q
/-- an operand: a slot's own value, or an expression's -/
structure Od where
  al : Option Nat
  T : List Nat
  k : Nat
  f : Sem0
def Od.te (G : Wd) (κ : List Nat) (o : Od) : TE := match o.al with
  | some i => tVar i
  | none => tV G o.T κ o.k o.f
/-- a slot's datum -/
def rd (i : Nat) : Sem0 := fun ρ => match ρ[i]? with
  | some .und => none
  | some d => some (d, ρ)
  | none => none
theorem rd_some {i : Nat} {ρ ρ' : List D} {d : D} (h : rd i ρ = some (d, ρ')) : ρ[i]? = some d ∧ d ≠ .und ∧ ρ' = ρ := by
  unfold rd at h
  cases e : ρ[i]? with
  | none => rw [e] at h; cases h
  | some d' =>
    rw [e] at h
    cases d' <;> first | (cases h; exact ⟨rfl, fun z => (by cases z), rfl⟩) | cases h
theorem rd_of {i : Nat} {ρ : List D} {d : D} (h : ρ[i]? = some d) (hu : d ≠ .und) : rd i ρ = some (d, ρ) := by
  unfold rd
  rw [h]
  cases d <;> first | rfl | exact absurd rfl hu
def odS (κ : List Nat) (i : Nat) : Od := ⟨some i, [], κ.getD i 0, rd i⟩
structure Od.Wf (κ : List Nat) (o : Od) : Prop where
  al : ∀ i, o.al = some i → o = odS κ i
def seqF : List Od → List D → Option (List D × List D)
  | [], ρ => some ([], ρ)
  | o :: os, ρ => (o.f ρ).bind fun p => (seqF os p.2).bind fun q => some (p.1 :: q.1, q.2)
def Ts : List Od → List Nat
  | [] => []
  | o :: os => o.T ++ Ts os
/-- a slot that is read as it stands is not changed by what is asked behind it -/
def WfSeq (κ : List Nat) : List Od → Prop
  | [] => True
  | o :: os => o.Wf κ ∧ (∀ i, o.al = some i → i ∉ Ts os) ∧ WfSeq κ os
def argsT (G : Wd) (κ : List Nat) : List Od → TA
  | [] => tNil
  | o :: os => tCons (o.te G κ) (argsT G κ os)
inductive Quad (R : Od → V → D → List Addr → Prop) : List Od → List V → List D → List (List Addr) → Prop
  | nil : Quad R [] [] [] []
  | cons {o : Od} {v : V} {d : D} {F : List Addr} {os : List Od} {vs : List V} {ds : List D} {Fs : List (List Addr)} : R o v d F → Quad R os vs ds Fs → Quad R (o :: os) (v :: vs) (d :: ds) (F :: Fs)
/-- what is known of an operand -/
def OdAt (G : Wd) (P : Addr → Prop) (H : Hp) (σ : L2.St) (Fs : Nat → List Addr) (o : Od) (v : V) (d : D) (F : List Addr) : Prop :=
  OwnK G P H o.k v d F ∧ match o.al with
    | some i => F = Fs i ∧ σ[i]? = some (some v)
    | none => ∀ a ∈ F, ¬ P a ∧ ∀ i, a ∉ Fs i
def temps : List Od → List (List Addr) → List Addr
  | o :: os, F :: Fs => match o.al with
    | some _ => temps os Fs
    | none => F ++ temps os Fs
  | _, _ => []
def ResA (G : Wd) (os : List Od) (κ : List Nat) (P : Addr → Prop) (H : Hp) (Fs : Nat → List Addr) (σ : L2.St) (ρ ρ' : List D) (ds : List D) (Q : List V → Hp → Prop) : Prop :=
  ∀ (vs : List V) (H' : Hp) (P' : Addr → Prop) (Gs : List (List Addr)) (Fs' : Nat → List Addr), Rep G P' H' σ ρ' κ Fs' → Quad (OdAt G P' H' σ Fs') os vs ds Gs → (temps os Gs).Nodup → (∀ a ∈ temps os Gs, H a = none) →
    Ext (Zt (Ts os) Fs) P H P' H' → (∀ i, i ∉ Ts os → Fs' i = Fs i ∧ ρ'[i]? = ρ[i]?) → (∀ i a, a ∈ Fs' i → a ∈ Fs i ∨ H a = none) → Q vs H'
section
variable {G : Wd} {P P' : Addr → Prop} {H H' : Hp} {κ : List Nat}
theorem Zt.step {T U : List Nat} {Fs Fs1 : Nat → List Addr} (h : ∀ i a, a ∈ Fs1 i → a ∈ Fs i ∨ H a = none) : ∀ c, Zt U Fs1 c → Zt (T ++ U) Fs c ∨ H c = none := fun c ⟨i, hi, m⟩ =>
  (h i c m).imp (fun q => ⟨i, List.mem_append_right _ hi, q⟩) id
theorem Zt.left {T U : List Nat} {Fs : Nat → List Addr} : ∀ c, Zt T Fs c → Zt (T ++ U) Fs c := fun _ ⟨i, hi, m⟩ => ⟨i, List.mem_append_left _ hi, m⟩
theorem back_none {Z : Addr → Prop} (E : Ext Z P H P' H') {a : Addr} (h : H' a = none) : H a = none := by
  cases e : H a with
  | none => rfl
  | some o => exact absurd h (E.there a (by rw [e]; simp))
theorem args_ok : ∀ (os : List Od) {P : Addr → Prop} {H : Hp} {σ : L2.St} {ρ ρ' ds : List D} {Fs : Nat → List Addr} {Q : List V → Hp → Prop}, WfSeq κ os → Rep G P H σ ρ κ Fs → seqF os ρ = some (ds, ρ') → ResA G os κ P H Fs σ ρ ρ' ds Q → argsT G κ os σ H Q
  | [], P, H, σ, ρ, ρ', ds, Fs, Q, _, R, e, q => by
    cases e
    exact q [] H P [] Fs R .nil List.nodup_nil (fun a m => by cases m) (Ext.refl (R.zm _) (R.zp _)) (fun i _ => ⟨rfl, rfl⟩) fun i a m => .inl m
  | o :: os, P, H, σ, ρ, ρ', ds, Fs, Q, wf, R, e, q => by
    obtain ⟨w1, w2, w3⟩ := wf
    unfold seqF at e
    obtain ⟨⟨d, ρ1⟩, e1, e⟩ := Option.bind_eq_some_iff.mp e
    obtain ⟨⟨ds', ρ2⟩, e2, e⟩ := Option.bind_eq_some_iff.mp e
    cases e
    show (o.te G κ) σ H fun x H1 => argsT G κ os σ H1 fun xs H2 => Q (x :: xs) H2
    cases ha : o.al with
    | some i =>
      have ho := w1.al i ha
      subst ho
      obtain ⟨e3, hu, rfl⟩ := rd_some e1
      obtain ⟨v, hv, ow⟩ := R.at_ i d e3 hu
      have hi := w2 i ha
      refine ⟨v, hv, args_ok os w3 R e2 fun vs H' P' Gs Fs' R' qd nd fr E st gr => ?_⟩
      obtain ⟨f1, f2⟩ := st i hi
      obtain ⟨v', hv', ow'⟩ := R'.at_ i d (by rw [f2]; exact e3) hu
      rw [hv] at hv'
      cases hv'
      exact q (v :: vs) H' P' (Fs' i :: Gs) Fs' R' (.cons ⟨ow', rfl, hv⟩ qd) nd fr E st gr
    | none =>
      unfold Od.te
      rw [ha]
      refine ⟨P, ρ, Fs, d, ρ1, R, e1, fun v H1 P1 F Fs1 R1 ow nd fr E st gr => ?_⟩
      refine args_ok os w3 R1 e2 fun vs H' P' Gs Fs' R' qd nd' fr' E' st' gr' => ?_
      have hz : ∀ a ∈ F, ¬ Zt (Ts os) Fs1 a := fun a m ⟨i, _, z⟩ => (fr a m).2.2 i z
      have hF : ∀ a ∈ F, ¬ P' a ∧ ∀ i, a ∉ Fs' i := fun a m => by
        obtain ⟨u, e5, _⟩ := ow.isM a m
        refine ⟨fun p => ?_, fun i z => ?_⟩
        · rcases E'.newP a p with p | p | p
          · exact (fr a m).1 p
          · rw [e5] at p; cases p
          · exact hz a m p
        · rcases gr' i a z with z | z
          · exact (fr a m).2.2 i z
          · rw [e5] at z; cases z
      have et : temps (o :: os) (F :: Gs) = F ++ temps os Gs := by conv => lhs; unfold temps; rw [ha]
      refine q (v :: vs) H' P' (F :: Gs) Fs' R' (.cons ⟨ow.ext E' hz, by rw [ha]; exact hF⟩ qd) ?_ ?_ ?_ ?_ ?_
      · rw [et]
        refine List.nodup_append.mpr ⟨nd, nd', fun a m b m' e => ?_⟩
        subst e
        obtain ⟨u, e5, _⟩ := ow.isM a m
        rw [fr' a m'] at e5; cases e5
      · rw [et]
        intro a m
        rcases List.mem_append.mp m with m | m
        · exact (fr a m).2.1
        · exact back_none E (fr' a m)
      · exact (E.more (Zt.left) (R.zm _) (R.zp _)).trans E' (Zt.step gr)
      · intro i hi
        have hi' : i ∉ o.T ∧ i ∉ Ts os := by
          rw [show Ts (o :: os) = o.T ++ Ts os from rfl, List.mem_append, not_or] at hi
          exact hi
        obtain ⟨a1, a2⟩ := st i hi'.1
        obtain ⟨b1, b2⟩ := st' i hi'.2
        exact ⟨b1.trans a1, b2.trans a2⟩
      · intro i a m
        rcases gr' i a m with m | m
        · exact gr i a m
        · exact .inr (back_none E m)
end
/-- an operation on values: what it asks (r), what it yields (g), of kind k -/
def OpS (G : Wd) (os : List Od) (k : Nat) (g : List D → Option D) (r : List V → Hp → VK → Prop) : Prop :=
  ∀ (κ : List Nat) (P : Addr → Prop) (H : Hp) (σ : L2.St) (ρ : List D) (Fs : Nat → List Addr) (vs : List V) (ds : List D) (Gs : List (List Addr)) (d : D) (Q : VK), Rep G P H σ ρ κ Fs → Quad (OdAt G P H σ Fs) os vs ds Gs → (temps os Gs).Nodup → g ds = some d →
    (∀ v H' F, OwnK G P H' k v d F → F.Nodup → (∀ a ∈ F, H a = none ∨ a ∈ temps os Gs) → (∀ a o, H a = some o → H' a = some o) → Q v H') → r vs H Q
def opF (g : List D → Option D) (os : List Od) : Sem0 := fun ρ => (seqF os ρ).bind fun p => (g p.1).bind fun d => some (d, p.2)
section
variable {G : Wd} {P P' : Addr → Prop} {H H' : Hp} {κ : List Nat}
theorem temps_ok {σ : L2.St} {Fs : Nat → List Addr} : ∀ {os : List Od} {vs : List V} {ds : List D} {Gs : List (List Addr)}, Quad (OdAt G P H σ Fs) os vs ds Gs → ∀ a ∈ temps os Gs, (¬ P a ∧ ∀ i, a ∉ Fs i) ∧ ∃ u, H a = some u ∧ IsM u
  | _, _, _, _, .nil, a, m => by cases m
  | o :: os, _, _, _, .cons (F := F) r q, a, m => by
    unfold temps at m
    cases ha : o.al with
    | some i => rw [ha] at m; exact temps_ok q a m
    | none =>
      rw [ha] at m
      rcases List.mem_append.mp m with m | m
      · have := r.2
        rw [ha] at this
        exact ⟨this a m, r.1.isM a m⟩
      · exact temps_ok q a m
/-- the whole operation -/
theorem op_ok {os : List Od} {k : Nat} {g : List D → Option D} {r : List V → Hp → VK → Prop} (wf : WfSeq κ os) (O : OpS G os k g r) {σ : L2.St} {H : Hp} {Q : VK} (h : tV G (Ts os) κ k (opF g os) σ H Q) : argsT G κ os σ H fun vs H1 => r vs H1 Q := by
  obtain ⟨P, ρ, Fs, d, ρ', R, e, q⟩ := h
  unfold opF at e
  obtain ⟨⟨ds, ρ1⟩, e1, e⟩ := Option.bind_eq_some_iff.mp e
  obtain ⟨d', e2, e⟩ := Option.bind_eq_some_iff.mp e
  cases e
  refine args_ok os wf R e1 fun vs H1 P1 Gs Fs1 R1 qd nd fr E st gr => ?_
  refine O κ P1 H1 σ ρ1 Fs1 vs ds Gs d Q R1 qd nd e2 fun v H2 F ow ndF hF keep => ?_
  have E2 : Ext (fun _ => False) P1 H1 P1 H2 := Ext.new keep
  have R2 := R1.ext E2 fun _ _ _ z => z
  refine q v H2 P1 F Fs1 R2 ow ndF (fun a m => ?_) (E.trans E2 fun _ z => z.elim) st gr
  rcases hF a m with z | z
  · obtain ⟨p, f⟩ := R1.fresh z
    exact ⟨p, back_none E z, f⟩
  · obtain ⟨⟨p, f⟩, _⟩ := temps_ok qd a z
    exact ⟨p, fr a z, f⟩
end
theorem _root_.L2.PE.imp {X : Cx} {e : Expr} {t t' : TE} (h : PE X e t) (i : ∀ σ H Q, t' σ H Q → t σ H Q) : PE X e t' := ⟨fun pins s σ H Q I w => h.run pins s σ H Q I (i σ H Q w)⟩
/-- a slot of kind 0 in the place of an expression -/
theorem te_of_rd {G : Wd} {κ : List Nat} {i : Nat} (hk : κ.getD i 0 = 0) {σ : L2.St} {H : Hp} {Q : VK} (h : tV G [] κ 0 (rd i) σ H Q) : tVar i σ H Q := by
  obtain ⟨P, ρ, Fs, d, ρ', R, e, q⟩ := h
  obtain ⟨e3, hu, rfl⟩ := rd_some e
  obtain ⟨v, hv, ow⟩ := R.at_ i d e3 hu
  rw [hk] at ow
  refine ⟨v, hv, q v H P [] Fs R ⟨ow.1, rfl⟩ List.nodup_nil (fun a m => by cases m) (Ext.refl (R.zm _) (R.zp _)) (fun i _ => ⟨rfl, rfl⟩) fun i a m => .inl m⟩
end VS

set_option Elab.async false
set_option linter.all false
set_option maxRecDepth 100000
/-! Statements over data: frames, ends, the rules. -/
namespace VS
open PySem PySem.Spec PyProof.Rows L2

/-- a call's frame at its entry: Φ: the parameters that are changed in place -/
structure Fm where
  Φ : List Nat
  κ0 : List Nat
  σ0 : L2.St
  P0 : Addr → Prop
  H0 : Hp
  Fs0 : Nat → List Addr
  /-- points of the past whose data still stand -/
  mks : List ((Addr → Prop) × Hp)
/-- what stays true of the data -/
def Late (G : Wd) (P : Addr → Prop) (H : Hp) (P' : Addr → Prop) (H' : Hp) : Prop := ∀ v d, Den G P H v d → Den G P' H' v d
theorem Late.refl {G : Wd} {P : Addr → Prop} {H : Hp} : Late G P H P H := fun _ _ h => h
theorem Late.trans {G : Wd} {P P1 P2 : Addr → Prop} {H H1 H2 : Hp} (a : Late G P H P1 H1) (b : Late G P1 H1 P2 H2) : Late G P H P2 H2 := fun v d h => b v d (a v d h)
theorem Ext.late {G : Wd} {Z P P' : Addr → Prop} {H H' : Hp} (E : Ext Z P H P' H') : Late G P H P' H' := fun _ _ h => h.ext E
structure Fm.At (M : Fm) (G : Wd) (P : Addr → Prop) (H : Hp) (σ : L2.St) (κ : List Nat) (Fs : Nat → List Addr) : Prop where
  ext : Ext (Zt M.Φ M.Fs0) M.P0 M.H0 P H
  same : ∀ i, i ∈ M.Φ → σ[i]? = M.σ0[i]?
  kin : ∀ i, i ∈ M.Φ → κ.getD i 0 = M.κ0.getD i 0
  own : ∀ i a, a ∈ Fs i → (i ∈ M.Φ ∧ a ∈ M.Fs0 i) ∨ M.H0 a = none
  late : ∀ m, m ∈ M.mks → Late G m.1 m.2 P H
/-- how a block ends -/
inductive Out where
  | nx (ρ : List D) | bk (ρ : List D) | ct (ρ : List D) | rt (d : D) (ρ : List D)
abbrev SemS := List D → Option Out
def EndN (G : Wd) (M : Fm) (κ : List Nat) (ρ' : List D) (N : L2.St → Hp → Prop) : Prop := ∀ σ' H' P' Fs', Rep G P' H' σ' ρ' κ Fs' → M.At G P' H' σ' κ Fs' → N σ' H'
def EndR (G : Wd) (M : Fm) (k : Nat) (d : D) (ρ' : List D) (N : VK) : Prop := ∀ v σ' H' P' Fs' κ' F, Rep G P' H' σ' ρ' κ' Fs' → M.At G P' H' σ' κ' Fs' → OwnK G P' H' k v d F → F.Nodup → (∀ a ∈ F, ¬ P' a ∧ M.H0 a = none ∧ ∀ i, a ∉ Fs' i) → N v H'
def OutE (G : Wd) (M : Fm) (κ κb : List Nat) (k : Nat) (o : Out) (E : Ends) : Prop := match o with
  | .nx ρ => EndN G M κ ρ E.nx
  | .bk ρ => EndN G M κb ρ E.bk
  | .ct ρ => EndN G M κb ρ E.ct
  | .rt d ρ => EndR G M k d ρ E.rt
def tS (G : Wd) (Φ κ κ' κb : List Nat) (k : Nat) (s : SemS) : TS := fun E σ H => ∃ (M : Fm) (P : Addr → Prop) (ρ : List D) (Fs : Nat → List Addr) (o : Out), M.Φ = Φ ∧ Rep G P H σ ρ κ Fs ∧ M.At G P H σ κ Fs ∧ s ρ = some o ∧ OutE G M κ' κb k o E
/-- a test -/
def tVT (G : Wd) (T κ : List Nat) (f : List D → Option (Bool × List D)) : TT := fun σ H Q => ∃ P ρ Fs b ρ', Rep G P H σ ρ κ Fs ∧ f ρ = some (b, ρ') ∧
  ∀ (H' : Hp) (P' : Addr → Prop) (Fs' : Nat → List Addr), Rep G P' H' σ ρ' κ Fs' → Ext (Zt T Fs) P H P' H' → (∀ i, i ∉ T → Fs' i = Fs i ∧ ρ'[i]? = ρ[i]?) → (∀ i a, a ∈ Fs' i → a ∈ Fs i ∨ H a = none) → Q b H'
theorem _root_.L2.PSs.imp {X : Cx} {st : List Stmt} {t t' : TS} (h : PSs X st t) (i : ∀ E σ H, t' E σ H → t E σ H) : PSs X st t' := ⟨fun pins s σ H D I w => h.run pins s σ H D I (i D σ H w)⟩
theorem _root_.L2.PS.imp {X : Cx} {st : Stmt} {t t' : TS} (h : PS X st t) (i : ∀ E σ H, t' E σ H → t E σ H) : PS X st t' := ⟨fun pins s σ H D I w => h.run pins s σ H D I (i D σ H w)⟩
theorem _root_.L2.PT.imp {X : Cx} {e : Expr} {t t' : TT} (h : PT X e t) (i : ∀ σ H Q, t' σ H Q → t σ H Q) : PT X e t' := ⟨fun pins s σ H Q I w => h.run pins s σ H Q I (i σ H Q w)⟩
theorem _root_.L2.PTs.imp {X : Cx} {e : List Expr} {t t' : TT} (h : PTs X e t) (i : ∀ σ H Q, t' σ H Q → t σ H Q) : PTs X e t' := ⟨fun pins s σ H Q I w => h.run pins s σ H Q I (i σ H Q w)⟩
theorem _root_.L2.PG.imp {X : Cx} {e : Expr} {t t' : TG} (h : PG X e t) (i : ∀ v σ H Q, t' v σ H Q → t v σ H Q) : PG X e t' := ⟨fun pins s σ H v u Q I r w => h.run pins s σ H v u Q I r (i v σ H Q w)⟩
theorem _root_.L2.PI.imp {X : Cx} {tg e : Expr} {t t' : TI} (h : PI X tg e t) (i : ∀ σ H Q, t' σ H Q → t σ H Q) : PI X tg e t' := ⟨fun pins s σ H Q I w => h.run pins s σ H Q I (i σ H Q w)⟩
section
variable {G : Wd} {M : Fm} {P P' : Addr → Prop} {H H' : Hp} {σ : L2.St} {ρ ρ' : List D} {κ κ' κb κ1 T U Φ : List Nat} {Fs Fs' : Nat → List Addr} {k : Nat}
theorem ne_in {L : List Nat} {i j : Nat} (hj : j ∈ L) (hi : i ∉ L) : i ≠ j := fun e => hi (by rw [e]; exact hj)
/-- a step within an expression -/
theorem Fm.At.step (A : M.At G P H σ κ Fs) (E : Ext (Zt T Fs) P H P' H') (gr : ∀ i a, a ∈ Fs' i → a ∈ Fs i ∨ H a = none) : M.At G P' H' σ κ Fs' :=
  ⟨A.ext.trans E fun c ⟨i, hi, m⟩ => (A.own i c m).imp (fun z => ⟨i, z.1, z.2⟩) id, A.same, A.kin, fun i a m => by
    rcases gr i a m with m | m
    · exact A.own i a m
    · exact .inr (back_none A.ext m), fun m hm => (A.late m hm).trans E.late⟩
theorem Fm.At.fresh (A : M.At G P H σ κ Fs) {a : Addr} (h : H a = none) : M.H0 a = none := back_none A.ext h
/-- a slot stored -/
theorem Fm.At.set (A : M.At G P H σ κ Fs) {i k : Nat} {v : V} {F : List Addr} (hi : i ∉ M.Φ) (hF : ∀ a ∈ F, M.H0 a = none) : M.At G P H (σ.set i (some v)) (κ.set i k) (setF Fs i F) :=
  ⟨A.ext, fun j hj => by rw [List.getElem?_set_ne (ne_in hj hi)]; exact A.same j hj, fun j hj => by
    rw [List.getD_eq_getElem?_getD, List.getElem?_set_ne (ne_in hj hi), ← List.getD_eq_getElem?_getD]; exact A.kin j hj, fun j a m => by
    by_cases q : j = i
    · rw [q, setF_same] at m; exact .inr (hF a m)
    · rw [setF_ne q] at m; exact A.own j a m, A.late⟩
theorem Fm.At.kill (A : M.At G P H σ κ Fs) {i k : Nat} (hi : i ∉ M.Φ) : M.At G P H σ (κ.set i k) (setF Fs i []) :=
  ⟨A.ext, A.same, fun j hj => by
    rw [List.getD_eq_getElem?_getD, List.getElem?_set_ne (ne_in hj hi), ← List.getD_eq_getElem?_getD]; exact A.kin j hj, fun j a m => by
    by_cases q : j = i
    · rw [q, setF_same] at m; cases m
    · rw [setF_ne q] at m; exact A.own j a m, A.late⟩
theorem Fm.At.freeze (A : M.At G P H σ κ Fs) (R : Rep G P H σ ρ κ Fs) {i : Nat} (hi : i ∉ M.Φ) : M.At G (fun a => P a ∨ a ∈ Fs i) H σ (κ.set i 0) (setF Fs i []) := by
  have B := A.kill (k := 0) hi
  refine ⟨A.ext.trans (R.freeze i).2 fun c m => ?_, B.same, B.kin, B.own, fun m hm => (A.late m hm).trans (R.freeze i).2.late⟩
  rcases A.own i c m with z | z
  · exact absurd z.1 hi
  · exact .inr z

/-! ### what a test, an expression does to the frame -/
theorem ex_at {d : D} {f : Sem0} (R : Rep G P H σ ρ κ Fs) (A : M.At G P H σ κ Fs) (e : f ρ = some (d, ρ')) {Q : VK}
    (q : ∀ v H' P' F Fs', Rep G P' H' σ ρ' κ Fs' → M.At G P' H' σ κ Fs' → OwnK G P' H' k v d F → F.Nodup → (∀ a ∈ F, ¬ P' a ∧ M.H0 a = none ∧ ∀ i, a ∉ Fs' i) → Q v H') : tV G T κ k f σ H Q :=
  ⟨P, ρ, Fs, d, ρ', R, e, fun v H' P' F Fs' R' o nd fr E st gr => q v H' P' F Fs' R' (A.step E gr) o nd fun a m => ⟨(fr a m).1, A.fresh (fr a m).2.1, (fr a m).2.2⟩⟩
theorem te_at {b : Bool} {f : List D → Option (Bool × List D)} (R : Rep G P H σ ρ κ Fs) (A : M.At G P H σ κ Fs) (e : f ρ = some (b, ρ')) {Q : Bool → Hp → Prop}
    (q : ∀ H' P' Fs', Rep G P' H' σ ρ' κ Fs' → M.At G P' H' σ κ Fs' → Q b H') : tVT G T κ f σ H Q :=
  ⟨P, ρ, Fs, b, ρ', R, e, fun H' P' Fs' R' E st gr => q H' P' Fs' R' (A.step E gr)⟩
end
/-! ### what statements do -/
def nilS : SemS := fun ρ => some (.nx ρ)
def seqS (s t : SemS) : SemS := fun ρ => (s ρ).bind fun o => match o with
  | .nx ρ' => t ρ'
  | o => some o
def killS (i : Nat) (s : SemS) : SemS := fun ρ => s (ρ.set i .und)
def setS (i : Nat) (f : Sem0) : SemS := fun ρ => (f ρ).bind fun p => some (.nx (p.2.set i p.1))
def dropS (f : Sem0) : SemS := fun ρ => (f ρ).bind fun p => some (.nx p.2)
def retS (f : Sem0) : SemS := fun ρ => (f ρ).bind fun p => some (.rt p.1 p.2)
def retN : SemS := fun ρ => some (.rt .non ρ)
def bkS : SemS := fun ρ => some (.bk ρ)
def ctS : SemS := fun ρ => some (.ct ρ)
def ifS (c : List D → Option (Bool × List D)) (s t : SemS) : SemS := fun ρ => (c ρ).bind fun p => if p.1 = true then s p.2 else t p.2
/-- while, at most n turns -/
def whileS (c : List D → Option (Bool × List D)) (s : SemS) : Nat → SemS
  | 0, _ => none
  | n + 1, ρ => (c ρ).bind fun p => if p.1 = true then (s p.2).bind fun o => match o with
      | .nx ρ' => whileS c s n ρ'
      | .ct ρ' => whileS c s n ρ'
      | .bk ρ' => some (.nx ρ')
      | .rt d ρ' => some (.rt d ρ')
    else some (.nx p.2)
abbrev Tgt := D → List D → Option (List D)
def loopS (m : Tgt) (s : SemS) : List D → SemS
  | [], ρ => some (.nx ρ)
  | x :: xs, ρ => (m x ρ).bind fun ρ1 => (s ρ1).bind fun o => match o with
      | .nx ρ' => loopS m s xs ρ'
      | .ct ρ' => loopS m s xs ρ'
      | .bk ρ' => some (.nx ρ')
      | .rt d ρ' => some (.rt d ρ')
def forS (f : List D → Option (List D × List D)) (m : Tgt) (s : SemS) : SemS := fun ρ => (f ρ).bind fun p => loopS m s p.1 p.2

/-- an iterator that gives the data ds -/
structure WalkD (G : Wd) (J : It) (ds : List D) (P : Addr → Prop) (H : Hp) : Prop where
  go : ∀ P' H' i, Late G P H P' H' → i < ds.length → J.go i H'
  stop : ∀ P' H', Late G P H P' H' → J.stop ds.length H'
  yld : ∀ P' H' i x H2 d, Late G P H P' H' → ds[i]? = some d → J.yld i H' x H2 → (∀ a o, H' a = some o → H2 a = some o) ∧ Den G P' H2 x d
/-- a source -/
def tVI (G : Wd) (T κ : List Nat) (f : List D → Option (List D × List D)) : TI := fun σ H Q => ∃ P ρ Fs ds ρ', Rep G P H σ ρ κ Fs ∧ f ρ = some (ds, ρ') ∧
  ∀ (J : It) (H' : Hp) (P' : Addr → Prop) (Fs' : Nat → List Addr), Rep G P' H' σ ρ' κ Fs' → WalkD G J ds P' H' → Ext (Zt T Fs) P H P' H' → (∀ i, i ∉ T → Fs' i = Fs i ∧ ρ'[i]? = ρ[i]?) → (∀ i a, a ∈ Fs' i → a ∈ Fs i ∨ H a = none) → Q J H'
/-- a target -/
def tG (G : Wd) (Φ κ κ' : List Nat) (m : Tgt) : TG := fun x σ H N => ∃ P ρ Fs d ρ', Rep G P H σ ρ κ Fs ∧ Den G P H x d ∧ m d ρ = some ρ' ∧ ∀ σ' Fs', Rep G P H σ' ρ' κ' Fs' → (∀ i, i ∈ Φ → σ'[i]? = σ[i]? ∧ κ'.getD i 0 = κ.getD i 0 ∧ ρ'[i]? = ρ[i]? ∧ Fs' i = Fs i) → (∀ i a, a ∈ Fs' i → a ∈ Fs i) → N σ' H
section
variable {X : Cx} {κ κ' κb κ1 T U Φ : List Nat} {k : Nat}
theorem vss_nil : PSs X [] (tS (gd X) Φ κ κ κb k nilS) := PSs.imp pss_nil fun E σ H ⟨M, P, ρ, Fs, o, h1, R, A, e, q⟩ => by
  cases e
  exact q σ H P Fs R A
theorem vss_cons {st : Stmt} {rest : List Stmt} {s t : SemS} (h1 : PS X st (tS (gd X) Φ κ κ1 κb k s)) (h2 : PSs X rest (tS (gd X) Φ κ1 κ' κb k t)) : PSs X (st :: rest) (tS (gd X) Φ κ κ' κb k (seqS s t)) :=
  PSs.imp (pss_cons h1 h2) fun E σ H ⟨M, P, ρ, Fs, o, hM, R, A, e, q⟩ => by
    unfold seqS at e
    obtain ⟨o1, e1, e⟩ := Option.bind_eq_some_iff.mp e
    refine ⟨M, P, ρ, Fs, o1, hM, R, A, e1, ?_⟩
    cases o1 with
    | nx ρ1 => exact fun σ' H' P' Fs' R' A' => ⟨M, P', ρ1, Fs', o, hM, R', A', e, q⟩
    | bk ρ1 => cases e; exact q
    | ct ρ1 => cases e; exact q
    | rt d ρ1 => cases e; exact q
theorem vss_one {st : Stmt} {s : SemS} (h1 : PS X st (tS (gd X) Φ κ κ' κb k s)) : PSs X [st] (tS (gd X) Φ κ κ' κb k s) := pss_one h1
/-- slot i becomes shared -/
theorem vss_frz {sts : List Stmt} {s : SemS} (i : Nat) (hi : i ∉ Φ) (h : PSs X sts (tS (gd X) Φ (κ.set i 0) κ' κb k s)) : PSs X sts (tS (gd X) Φ κ κ' κb k s) :=
  h.imp fun E σ H ⟨M, P, ρ, Fs, o, hM, R, A, e, q⟩ => ⟨M, _, ρ, _, o, hM, (R.freeze i).1, A.freeze R (hM ▸ hi), e, q⟩
/-- slot i forgotten, of kind j from now on -/
theorem vss_kill {sts : List Stmt} {s : SemS} (i j : Nat) (hi : i ∉ Φ) (h : PSs X sts (tS (gd X) Φ (κ.set i j) κ' κb k s)) : PSs X sts (tS (gd X) Φ κ κ' κb k (killS i s)) :=
  h.imp fun E σ H ⟨M, P, ρ, Fs, o, hM, R, A, e, q⟩ => ⟨M, P, _, _, o, hM, R.kill i j, A.kill (hM ▸ hi), e, q⟩
theorem set_at {M : Fm} {P : Addr → Prop} {H : Hp} {σ : L2.St} {ρ : List D} {Fs : Nat → List Addr} {i j : Nat} {f : Sem0} {o : Out} {E : Ends} (hM : M.Φ = Φ) (hi : i ∉ Φ) (hk : i < κ.length) (R : Rep (gd X) P H σ ρ κ Fs) (A : M.At (gd X) P H σ κ Fs) (e : setS i f ρ = some o) (q : OutE (gd X) M (κ.set i j) κb k o E) :
    tV (gd X) T κ j f σ H fun x H1 => E.nx (σ.set i (some x)) H1 := by
  unfold setS at e
  obtain ⟨⟨d, ρ1⟩, e1, e⟩ := Option.bind_eq_some_iff.mp e
  cases e
  exact ex_at R A e1 fun v H' P' F Fs' R' A' ow nd fr => q (σ.set i (some v)) H' P' (setF Fs' i F) (R'.set hk ow nd (fun a m => (fr a m).1) fun j _ a m => (fr a m).2.2 j) (A'.set (hM ▸ hi) fun a m => (fr a m).2.1)
/-- name = e -/
theorem vs_set {j : Nat} {i : Nat} {x : Str} {e : Expr} {f : Sem0} {pos pos' : Pos} (hi : i ∉ Φ) (hk : i < κ.length) (hN : X.N.Nodup) (hx1 : X.N[i]? = some x) (hx : Loc X.env.scope x) (he : PE X e (tV (gd X) T κ j f)) (hs : swapsWith e (some (.Name x pos')) pos.line X.env = pure false := by rfl) (hf : X.fn x = true ∨ X.env.scope.names.lookup x = some .local := by first | exact .inl rfl | exact .inr rfl | assumption) :
    PS X (.Assign [.Name x pos'] e pos) (tS (gd X) Φ κ (κ.set i j) κb k (setS i f)) :=
  PS.imp (ps_set hN hx1 hx he hs hf) fun E σ H ⟨M, P, ρ, Fs, o, hM, R, A, e, q⟩ => set_at hM hi hk R A e q
theorem vs_expr {e : Expr} {f : Sem0} {pos : Pos} {j : Nat} (he : PE X e (tV (gd X) T κ j f)) (hs : swapsWith e none pos.line X.env = pure false := by rfl) : PS X (.Expr e pos) (tS (gd X) Φ κ κ κb k (dropS f)) :=
  PS.imp (ps_expr he hs) fun E σ H ⟨M, P, ρ, Fs, o, hM, R, A, e, q⟩ => by
    unfold dropS at e
    obtain ⟨⟨d, ρ1⟩, e1, e⟩ := Option.bind_eq_some_iff.mp e
    cases e
    exact ex_at R A e1 fun v H' P' F Fs' R' A' ow nd fr => q σ H' P' Fs' R' A'
theorem vs_ret {e : Expr} {f : Sem0} {pos : Pos} (he : PE X e (tV (gd X) T κ k f)) : PS X (.Return (some e) pos) (tS (gd X) Φ κ κ' κb k (retS f)) :=
  PS.imp (ps_ret he) fun E σ H ⟨M, P, ρ, Fs, o, hM, R, A, e, q⟩ => by
    unfold retS at e
    obtain ⟨⟨d, ρ1⟩, e1, e⟩ := Option.bind_eq_some_iff.mp e
    cases e
    exact ex_at R A e1 fun v H' P' F Fs' R' A' ow nd fr => q v σ H' P' Fs' κ F R' A' ow nd fr
theorem vs_retN {pos : Pos} : PS X (.Return none pos) (tS (gd X) Φ κ κ' κb k retN) :=
  PS.imp ps_retN fun E σ H ⟨M, P, ρ, Fs, o, hM, R, A, e, q⟩ => by
    cases e
    exact q .non σ H P Fs κ [] R A (OwnK.flat (F := []) .non rfl) List.nodup_nil fun a m => by cases m
theorem vs_pass {pos : Pos} : PS X (.Pass pos) (tS (gd X) Φ κ κ κb k nilS) := PS.imp ps_pass fun E σ H ⟨M, P, ρ, Fs, o, h1, R, A, e, q⟩ => by
  cases e
  exact q σ H P Fs R A
theorem vs_break {pos : Pos} : PS X (.Break pos) (tS (gd X) Φ κ κ' κ k bkS) := PS.imp ps_break fun E σ H ⟨M, P, ρ, Fs, o, h1, R, A, e, q⟩ => by
  cases e
  exact q σ H P Fs R A
theorem vs_cont {pos : Pos} : PS X (.Continue pos) (tS (gd X) Φ κ κ' κ k ctS) := PS.imp ps_continue fun E σ H ⟨M, P, ρ, Fs, o, h1, R, A, e, q⟩ => by
  cases e
  exact q σ H P Fs R A
theorem vs_if {c : Expr} {a b : List Stmt} {pos : Pos} {t : List D → Option (Bool × List D)} {s u : SemS} (hc : PT X c (tVT (gd X) T κ t)) (ha : PSs X a (tS (gd X) Φ κ κ' κb k s)) (hb : PSs X b (tS (gd X) Φ κ κ' κb k u)) : PS X (.If c a b pos) (tS (gd X) Φ κ κ' κb k (ifS t s u)) :=
  PS.imp (ps_if hc ha hb) fun E σ H ⟨M, P, ρ, Fs, o, hM, R, A, e, q⟩ => by
    unfold ifS at e
    obtain ⟨⟨b, ρ1⟩, e1, e⟩ := Option.bind_eq_some_iff.mp e
    refine te_at R A e1 fun H' P' Fs' R' A' => ?_
    cases b with
    | true => exact ⟨M, P', ρ1, Fs', o, hM, R', A', e, q⟩
    | false => exact ⟨M, P', ρ1, Fs', o, hM, R', A', e, q⟩
theorem vs_while {c : Expr} {body : List Stmt} {pos : Pos} {t : List D → Option (Bool × List D)} {s : SemS} (n : Nat) (hp : PassesOwn (model X.prog X.w) X.A X.env X.xe) (hc : PT X c (tVT (gd X) T κ t)) (hb : PSs X body (tS (gd X) Φ κ κ κ k s)) : PS X (.While c body [] pos) (tS (gd X) Φ κ κ κb k (whileS t s n)) :=
  PS.imp (ps_while hp hc hb) fun E σ H ⟨M, P, ρ, Fs, o, hM, R, A, e, q⟩ => by
    refine ⟨fun m σ H => ∃ P ρ Fs, Rep (gd X) P H σ ρ κ Fs ∧ M.At (gd X) P H σ κ Fs ∧ whileS t s m ρ = some o, ⟨n, P, ρ, Fs, R, A, e⟩, ?_⟩
    rintro m σ1 H1 ⟨P1, ρ1, Fs1, R1, A1, e1⟩
    cases m with
    | zero => cases e1
    | succ m =>
      unfold whileS at e1
      obtain ⟨⟨b, ρ2⟩, e2, e3⟩ := Option.bind_eq_some_iff.mp e1
      refine te_at R1 A1 e2 fun H' P' Fs' R' A' => ?_
      cases b with
      | false =>
        cases e3
        exact q σ1 H' P' Fs' R' A'
      | true =>
        obtain ⟨o', e4, e5⟩ := Option.bind_eq_some_iff.mp (show (s ρ2).bind _ = some o from e3)
        show ∃ N : L2.St → Hp → Prop, _ ∧ _
        refine ⟨fun σ2 H2 => ∃ P ρ Fs, Rep (gd X) P H2 σ2 ρ κ Fs ∧ M.At (gd X) P H2 σ2 κ Fs ∧ whileS t s m ρ = some o, fun σ2 H2 z => ⟨m, Nat.lt_succ_self m, z⟩, M, P', ρ2, Fs', o', hM, R', A', e4, ?_⟩
        cases o' with
        | nx ρ3 => exact fun σ' H' P' Fs' R' A' => ⟨P', ρ3, Fs', R', A', e5⟩
        | ct ρ3 => exact fun σ' H' P' Fs' R' A' => ⟨P', ρ3, Fs', R', A', e5⟩
        | bk ρ3 => cases e5; exact q
        | rt d ρ3 => cases e5; exact q
theorem vs_for {tg iter : Expr} {body : List Stmt} {pos : Pos} {f : List D → Option (List D × List D)} {m : Tgt} {s : SemS} (hp : PassesOwn (model X.prog X.w) X.A X.env X.xe) (hc : X.calm = true) (hi : PI X tg iter (tVI (gd X) T κ f)) (hg : PG X tg (tG (gd X) Φ κ κ m)) (hb : PSs X body (tS (gd X) Φ κ κ κ k s))
    (hs : ∀ x, foldedSetIterable iter X.env x = pure x := by intro _; rfl) : PS X (.For tg iter body [] pos) (tS (gd X) Φ κ κ κb k (forS f m s)) :=
  PS.imp (ps_for hp hc hi hg hb hs) fun E σ H ⟨M, P, ρ, Fs, o, hM, R, A, e, q⟩ => by
    unfold forS at e
    obtain ⟨⟨ds, ρ1⟩, e1, e⟩ := Option.bind_eq_some_iff.mp e
    refine ⟨P, ρ, Fs, ds, ρ1, R, e1, fun J H' P' Fs' R' W Ex st gr => ?_⟩
    have A' := A.step Ex gr
    refine ⟨fun i m' σ H => i + m' = ds.length ∧ ∃ P ρ Fs, Rep (gd X) P H σ ρ κ Fs ∧ M.At (gd X) P H σ κ Fs ∧ Late (gd X) P' H' P H ∧ loopS m s (ds.drop i) ρ = some o, ⟨ds.length, Nat.zero_add _, P', ρ1, Fs', R', A', Late.refl, e⟩, ?_⟩
    rintro i m' σ1 H1 ⟨hl, P1, ρ2, Fs1, R1, A1, L1, e2⟩
    cases hd : ds.drop i with
    | nil =>
      have hi : i = ds.length := by
        have := List.drop_eq_nil_iff.mp hd
        omega
      subst hi
      rw [hd] at e2
      cases e2
      exact .inl ⟨W.stop P1 H1 L1, q σ1 H1 P1 Fs1 R1 A1⟩
    | cons x xs =>
      have hi : i < ds.length := by
        have := congrArg List.length hd
        rw [List.length_drop, List.length_cons] at this
        omega
      have hx : ds[i]? = some x := by
        have := congrArg List.head? hd
        rw [List.head?_drop] at this
        exact this
      have hxs : ds.drop (i + 1) = xs := by
        rw [← List.drop_drop, hd]
        rfl
      rw [hd] at e2
      unfold loopS at e2
      obtain ⟨ρ3, e3, e2⟩ := Option.bind_eq_some_iff.mp e2
      obtain ⟨o', e4, e5⟩ := Option.bind_eq_some_iff.mp e2
      refine .inr ⟨W.go P1 H1 i L1 hi, fun σ H => ∃ P ρ Fs, Rep (gd X) P H σ ρ κ Fs ∧ M.At (gd X) P H σ κ Fs ∧ Late (gd X) P' H' P H ∧ loopS m s xs ρ = some o, fun σ' H'' ⟨P, ρ, Fs, a, b, c, d⟩ => ⟨m' - 1, by omega, by omega, P, ρ, Fs, a, b, c, by rw [hxs]; exact d⟩, fun v H2 hy => ?_⟩
      obtain ⟨kp, dn⟩ := W.yld P1 H1 i v H2 x L1 hx hy
      have E2 : Ext (fun _ => False) P1 H1 P1 H2 := Ext.new kp
      have R2 := R1.ext E2 fun _ _ _ z => z
      have A2 : M.At (gd X) P1 H2 σ1 κ Fs1 := ⟨A1.ext.trans E2 fun _ z => z.elim, A1.same, A1.kin, A1.own, fun m hm => (A1.late m hm).trans E2.late⟩
      refine ⟨P1, ρ2, Fs1, x, ρ3, R2, dn, e3, fun σ2 Fs2 R3 sm sub => ?_⟩
      have A3 : ({ M with mks := (P', H') :: M.mks }).At (gd X) P1 H2 σ2 κ Fs2 := ⟨A2.ext, fun j hj => (sm j (hM ▸ hj)).1.trans (A2.same j hj), A2.kin, fun j a m => A2.own j a (sub j a m), fun m hm => by
        rcases List.mem_cons.mp hm with rfl | hm
        · exact L1.trans E2.late
        · exact A2.late m hm⟩
      refine ⟨{ M with mks := (P', H') :: M.mks }, P1, ρ3, Fs2, o', hM, R3, A3, e4, ?_⟩
      have back : ∀ {P H σ κ Fs}, ({ M with mks := (P', H') :: M.mks }).At (gd X) P H σ κ Fs → M.At (gd X) P H σ κ Fs := fun A => ⟨A.ext, A.same, A.kin, A.own, fun m hm => A.late m (List.mem_cons_of_mem _ hm)⟩
      cases o' with
      | nx ρ4 => exact fun σ' H' P' Fs' R' A' => ⟨P', ρ4, Fs', R', back A', A'.late _ List.mem_cons_self, e5⟩
      | ct ρ4 => exact fun σ' H' P' Fs' R' A' => ⟨P', ρ4, Fs', R', back A', A'.late _ List.mem_cons_self, e5⟩
      | bk ρ4 => cases e5; exact fun σ' H' P' Fs' R' A' => q σ' H' P' Fs' R' (back A')
      | rt d ρ4 => cases e5; exact fun v σ' H' P' Fs' κ' F R' A' => q v σ' H' P' Fs' κ' F R' (back A')
theorem Fm.At.tgt {G : Wd} {M : Fm} {P : Addr → Prop} {H : Hp} {σ σ' : L2.St} {Fs Fs' : Nat → List Addr} (A : M.At G P H σ κ Fs) {ρ ρ' : List D} (sm : ∀ i, i ∈ M.Φ → σ'[i]? = σ[i]? ∧ κ'.getD i 0 = κ.getD i 0 ∧ ρ'[i]? = ρ[i]? ∧ Fs' i = Fs i) (sub : ∀ i a, a ∈ Fs' i → a ∈ Fs i) : M.At G P H σ' κ' Fs' :=
  ⟨A.ext, fun j hj => (sm j hj).1.trans (A.same j hj), fun j hj => (sm j hj).2.1.trans (A.kin j hj), fun j a m => A.own j a (sub j a m), A.late⟩
def asgS (f : Sem0) (m : Tgt) : SemS := fun ρ => (f ρ).bind fun p => (m p.1 p.2).bind fun ρ' => some (.nx ρ')
/-- target = e, the value shared -/
theorem vs_asg {tg e : Expr} {f : Sem0} {m : Tgt} {pos : Pos} (he : PE X e (tV (gd X) T κ 0 f)) (hg : PG X tg (tG (gd X) Φ κ κ' m)) (hs : swapsWithSole [tg] e pos.line X.env = pure false := by rfl) (hw : swappedStores [tg] e X.env = pure none := by rfl)
    (h1 : (assignEach [tg] X.env).map (·.2) = [assign tg X.env] := by rfl) : PS X (.Assign [tg] e pos) (tS (gd X) Φ κ κ' κb k (asgS f m)) :=
  PS.imp (ps_asg he hg hs hw h1) fun E σ H ⟨M, P, ρ, Fs, o, hM, R, A, e, q⟩ => by
    unfold asgS at e
    obtain ⟨⟨d, ρ1⟩, e1, e⟩ := Option.bind_eq_some_iff.mp e
    obtain ⟨ρ2, e2, e⟩ := Option.bind_eq_some_iff.mp e
    cases e
    exact ex_at R A e1 fun v H' P' F Fs' R' A' ow nd fr => ⟨P', ρ1, Fs', d, ρ2, R', ow.1, e2, fun σ' Fs2 R2 sm sub => q σ' H' P' Fs2 R2 (A'.tgt (hM ▸ sm) sub)⟩
/-! ### targets -/
def tgN (i : Nat) : Tgt := fun d ρ => some (ρ.set i d)
def tgs : List Tgt → List D → List D → Option (List D)
  | [], [], ρ => some ρ
  | m :: ms, d :: ds, ρ => (m d ρ).bind fun ρ' => tgs ms ds ρ'
  | _, _, _ => none
def tgT (ms : List Tgt) : Tgt := fun d ρ => match d with
  | .tup ds => tgs ms ds ρ
  | _ => none
theorem vg_name {i : Nat} {x : Str} {pos : Pos} (hi : i ∉ Φ) (hk : i < κ.length) (hκ : κ.set i 0 = κ') (hN : X.N.Nodup) (hx1 : X.N[i]? = some x) (hx : Loc X.env.scope x) (hf : X.fn x = true ∨ X.env.scope.names.lookup x = some .local := by first | exact .inl rfl | exact .inr rfl | assumption) : PG X (.Name x pos) (tG (gd X) Φ κ κ' (tgN i)) :=
  (pg_name hN hx1 hx hf).imp fun v σ H Q ⟨P, ρ, Fs, d, ρ', R, dn, e, q⟩ => by
    cases e
    subst hκ
    refine q _ (setF Fs i []) (R.set hk ⟨dn, rfl⟩ List.nodup_nil (fun a m => by cases m) fun j _ a m => by cases m) (fun j hj => ?_) fun j a m => ?_
    · have := ne_in hj hi
      exact ⟨List.getElem?_set_ne this, by rw [List.getD_eq_getElem?_getD, List.getElem?_set_ne this, ← List.getD_eq_getElem?_getD], List.getElem?_set_ne this, setF_ne (Ne.symm this)⟩
    · by_cases z : j = i
      · rw [z, setF_same] at m; cases m
      · rw [setF_ne z] at m; exact m
def tGs (G : Wd) (Φ κ κ' : List Nat) (ms : List Tgt) : TGs := fun xs σ H N => ∃ P ρ Fs ds ρ', Rep G P H σ ρ κ Fs ∧ DenL G P H xs ds ∧ tgs ms ds ρ = some ρ' ∧ ∀ σ' Fs', Rep G P H σ' ρ' κ' Fs' → (∀ i, i ∈ Φ → σ'[i]? = σ[i]? ∧ κ'.getD i 0 = κ.getD i 0 ∧ ρ'[i]? = ρ[i]? ∧ Fs' i = Fs i) → (∀ i a, a ∈ Fs' i → a ∈ Fs i) → N σ' H
theorem _root_.L2.PGs.imp {X : Cx} {e : List Expr} {t t' : TGs} (h : PGs X e t) (i : ∀ v σ H Q, t' v σ H Q → t v σ H Q) : PGs X e t' := ⟨fun pins s σ H v u Q I r w => h.run pins s σ H v u Q I r (i v σ H Q w)⟩
theorem vgs_nil : PGs X [] (tGs (gd X) Φ κ κ []) := pgs_nil.imp fun xs σ H Q ⟨P, ρ, Fs, ds, ρ', R, dn, e, q⟩ => by
  cases dn with
  | nil =>
    cases e
    exact ⟨rfl, q σ Fs R (fun _ _ => ⟨rfl, rfl, rfl, rfl⟩) fun _ _ m => m⟩
  | cons _ _ => cases e
theorem vgs_cons {e : Expr} {es : List Expr} {m : Tgt} {ms : List Tgt} (h1 : PG X e (tG (gd X) Φ κ κ1 m)) (h2 : PGs X es (tGs (gd X) Φ κ1 κ' ms)) (hs : (assignEach (e :: es) X.env).map (·.2) = assign e X.env :: (assignEach es X.env).map (·.2) := by rfl) : PGs X (e :: es) (tGs (gd X) Φ κ κ' (m :: ms)) :=
  (pgs_cons h1 h2 hs).imp fun xs σ H Q ⟨P, ρ, Fs, ds, ρ', R, dn, e, q⟩ => by
    cases dn with
    | nil => cases e
    | cons dx dr =>
      unfold tgs at e
      obtain ⟨ρ1, e1, e⟩ := Option.bind_eq_some_iff.mp e
      exact ⟨_, _, rfl, P, ρ, Fs, _, ρ1, R, dx, e1, fun σ1 Fs1 R1 sm1 sub1 => ⟨P, ρ1, Fs1, _, ρ', R1, dr, e, fun σ2 Fs2 R2 sm2 sub2 =>
        q σ2 Fs2 R2 (fun i hi => ⟨(sm2 i hi).1.trans (sm1 i hi).1, (sm2 i hi).2.1.trans (sm1 i hi).2.1, (sm2 i hi).2.2.1.trans (sm1 i hi).2.2.1, (sm2 i hi).2.2.2.trans (sm1 i hi).2.2.2⟩) fun i a m => sub1 i a (sub2 i a m)⟩⟩
theorem tgs_length : ∀ {ms : List Tgt} {ds ρ ρ' : List D}, tgs ms ds ρ = some ρ' → ds.length = ms.length
  | [], [], _, _, _ => rfl
  | [], _ :: _, _, _, h => by cases h
  | _ :: _, [], _, _, h => by cases h
  | m :: ms, d :: ds, ρ, ρ', h => by
    unfold tgs at h
    obtain ⟨ρ1, _, e⟩ := Option.bind_eq_some_iff.mp h
    rw [List.length_cons, List.length_cons, tgs_length e]
theorem vg_tup {es : List Expr} {kk : Nat} {ms : List Tgt} {pos : Pos} (hc : X.calm = true) (h : PGs X es (tGs (gd X) Φ κ κ' ms)) (hn : (assignEach es X.env).length = ms.length := by rfl) (hst : (assignEach es X.env).findIdx? (·.1) = none := by rfl) : PG X (.Tuple es kk pos) (tG (gd X) Φ κ κ' (tgT ms)) :=
  (pg_tup hc h hn hst).imp fun x σ H Q ⟨P, ρ, Fs, d, ρ', R, dn, e, q⟩ => by
    cases dn with
    | tup ha hd => exact ⟨_, _, rfl, .inl (.inl ha), hd.length.trans (tgs_length e), P, ρ, Fs, _, ρ', R, hd, e, q⟩
    | _ => cases e
end
end VS

set_option Elab.async false
set_option linter.all false
set_option maxRecDepth 100000
/-! Expressions over data. -/
namespace VS
open PySem PySem.Spec PyProof.Rows L2

structure Stp (T : List Nat) (P : Addr → Prop) (H : Hp) (Fs : Nat → List Addr) (ρ : List D) (P' : Addr → Prop) (H' : Hp) (Fs' : Nat → List Addr) (ρ' : List D) : Prop where
  ext : Ext (Zt T Fs) P H P' H'
  st : ∀ i, i ∉ T → Fs' i = Fs i ∧ ρ'[i]? = ρ[i]?
  gr : ∀ i a, a ∈ Fs' i → a ∈ Fs i ∨ H a = none
section
variable {G : Wd} {P P' P1 : Addr → Prop} {H H' H1 : Hp} {σ : L2.St} {ρ ρ' ρ1 : List D} {κ T U : List Nat} {Fs Fs' Fs1 : Nat → List Addr} {k : Nat}
theorem Stp.refl (T : List Nat) (R : Rep G P H σ ρ κ Fs) : Stp T P H Fs ρ P H Fs ρ := ⟨Ext.refl (R.zm _) (R.zp _), fun _ _ => ⟨rfl, rfl⟩, fun _ _ m => .inl m⟩
theorem Stp.trans (R : Rep G P H σ ρ κ Fs) (a : Stp T P H Fs ρ P1 H1 Fs1 ρ1) (b : Stp U P1 H1 Fs1 ρ1 P' H' Fs' ρ') : Stp (T ++ U) P H Fs ρ P' H' Fs' ρ' :=
  ⟨(a.ext.more Zt.left (R.zm _) (R.zp _)).trans b.ext (Zt.step a.gr), fun i hi => by
    rw [List.mem_append, not_or] at hi
    obtain ⟨a1, a2⟩ := a.st i hi.1
    obtain ⟨b1, b2⟩ := b.st i hi.2
    exact ⟨b1.trans a1, b2.trans a2⟩, fun i c m => by
    rcases b.gr i c m with m | m
    · exact a.gr i c m
    · exact .inr (back_none a.ext m)⟩
theorem Stp.mono (R : Rep G P H σ ρ κ Fs) (h : ∀ i, i ∈ T → i ∈ U) (a : Stp T P H Fs ρ P' H' Fs' ρ') : Stp U P H Fs ρ P' H' Fs' ρ' :=
  ⟨a.ext.more (fun _ ⟨i, hi, m⟩ => ⟨i, h i hi, m⟩) (R.zm _) (R.zp _), fun i hi => a.st i fun z => hi (h i z), a.gr⟩
theorem Stp.old (a : Stp T P H Fs ρ P' H' Fs' ρ') {Z : Addr → Prop} {P2 : Addr → Prop} {H2 : Hp} (E : Ext (fun _ => False) P' H' P2 H2) : Stp T P H Fs ρ P2 H2 Fs' ρ' := ⟨a.ext.trans E fun _ z => z.elim, a.st, a.gr⟩
/-- what is known of a new value stays, when the slots U change -/
theorem fresh_step (R : Rep G P H σ ρ κ Fs) {v : V} {d : D} {F : List Addr} (o : OwnK G P H k v d F) (fr : ∀ a ∈ F, ¬ P a ∧ ∀ i, a ∉ Fs i) (b : Stp U P H Fs ρ P' H' Fs' ρ') : OwnK G P' H' k v d F ∧ ∀ a ∈ F, ¬ P' a ∧ ∀ i, a ∉ Fs' i := by
  have hz : ∀ a ∈ F, ¬ Zt U Fs a := fun a m ⟨i, _, z⟩ => (fr a m).2 i z
  refine ⟨o.ext b.ext hz, fun a m => ?_⟩
  obtain ⟨u, e5, _⟩ := o.isM a m
  refine ⟨fun p => ?_, fun i z => ?_⟩
  · rcases b.ext.newP a p with p | p | p
    · exact (fr a m).1 p
    · rw [e5] at p; cases p
    · exact hz a m p
  · rcases b.gr i a z with z | z
    · exact (fr a m).2 i z
    · rw [e5] at z; cases z
/-- a new value is shared -/
theorem share_val (R : Rep G P H σ ρ κ Fs) {v : V} {d : D} {F : List Addr} (o : OwnK G P H k v d F) (fr : ∀ a ∈ F, ¬ P a ∧ ∀ i, a ∉ Fs i) :
    Rep G (fun a => P a ∨ a ∈ F) H σ ρ κ Fs ∧ Den G (fun a => P a ∨ a ∈ F) H v d ∧ Ext (fun a => a ∈ F) P H (fun a => P a ∨ a ∈ F) H := by
  have E : Ext (fun a => a ∈ F) P H (fun a => P a ∨ a ∈ F) H := Ext.share _ o.isM fun a m => (fr a m).1
  exact ⟨R.ext E fun i a m z => (fr a z).2 i m, o.view fun a m => (fr a m).1, E⟩
end

section
variable {X : Cx} {κ κ' T U : List Nat} {k : Nat} {f : Sem0}
def cF (d : D) : Sem0 := fun ρ => some (d, ρ)
theorem tV_c {d : D} {v : V} {G : Wd} (hd : ∀ P H, Den G P H v d) (hf : d.flat = true) {σ : L2.St} {H : Hp} {Q : VK} (h : tV G [] κ k (cF d) σ H Q) : tC v σ H Q := by
  obtain ⟨P, ρ, Fs, d', ρ', R, e, q⟩ := h
  cases e
  have s := Stp.refl [] R
  exact q v H P [] Fs R (OwnK.flat (F := []) (hd P H) hf) List.nodup_nil (fun a m => by cases m) s.ext s.st s.gr
theorem ve_int {i j pos} : PE X (.Constant (.int i) j pos) (tV (gd X) [] κ k (cF (.int i))) := pe_int.imp fun _ _ _ => tV_c (fun _ _ => .int i) rfl
theorem ve_bl {b j pos} : PE X (.Constant (.bool b) j pos) (tV (gd X) [] κ k (cF (.bl b))) := pe_bl.imp fun _ _ _ => tV_c (fun _ _ => .bl b) rfl
theorem ve_non {j pos} : PE X (.Constant .none j pos) (tV (gd X) [] κ k (cF .non)) := pe_non.imp fun _ _ _ => tV_c (fun _ _ => .non) rfl
theorem ve_str {x j pos} : PE X (.Constant (.str x) j pos) (tV (gd X) [] κ k (cF (.str x))) := pe_str.imp fun _ _ _ => tV_c (fun _ _ => .str x) rfl
theorem ve_var {i : Nat} {x : Str} {pos : Pos} (hk : κ.getD i 0 = 0) (hN : X.N[i]? = some x) (hv : Vis X.env.scope x) (hd : (x == ("__debug__" : Str)) = false := by decide) (hcd : (x == ("__classdict__" : Str)) = false := by decide) : PE X (.Name x pos) (tV (gd X) [] κ 0 (rd i)) :=
  (pe_var hN hv hd hcd).imp fun _ _ _ h => te_of_rd hk h
/-- a new value shared -/
theorem ve_share {e : Expr} (h : PE X e (tV (gd X) T κ k f)) : PE X e (tV (gd X) T κ 0 f) := h.imp fun σ H Q ⟨P, ρ, Fs, d, ρ', R, e, q⟩ =>
  ⟨P, ρ, Fs, d, ρ', R, e, fun v H' P' F Fs' R' o nd fr E st gr => by
    obtain ⟨R2, dn, E2⟩ := share_val R' o fun a m => ⟨(fr a m).1, (fr a m).2.2⟩
    exact q v H' _ [] Fs' R2 ⟨dn, rfl⟩ List.nodup_nil (fun a m => by cases m) (E.trans E2 fun a m => .inr (fr a m).2.1) st gr⟩
/-- T may be more -/
theorem tV_more {G : Wd} (h : ∀ i, i ∈ T → i ∈ U) {σ : L2.St} {H : Hp} {Q : VK} (w : tV G U κ k f σ H Q) : tV G T κ k f σ H Q := by
  obtain ⟨P, ρ, Fs, d, ρ', R, e, q⟩ := w
  refine ⟨P, ρ, Fs, d, ρ', R, e, fun v H' P' F Fs' R' o nd fr E st gr => ?_⟩
  have s := Stp.mono R h ⟨E, st, gr⟩
  exact q v H' P' F Fs' R' o nd fr s.ext s.st s.gr

/-! ### operands -/
structure VO (X : Cx) (κ : List Nat) (e : Expr) (o : Od) : Prop where
  pe : PE X e (o.te (gd X) κ)
  wf : o.Wf κ
structure VA (X : Cx) (κ : List Nat) (es : List Expr) (os : List Od) : Prop where
  pa : PA X es (argsT (gd X) κ os)
  wf : WfSeq κ os
abbrev odE (T : List Nat) (k : Nat) (f : Sem0) : Od := ⟨none, T, k, f⟩
theorem vo_var {i : Nat} {x : Str} {pos : Pos} (hN : X.N[i]? = some x) (hv : Vis X.env.scope x) (hd : (x == ("__debug__" : Str)) = false := by decide) (hcd : (x == ("__classdict__" : Str)) = false := by decide) : VO X κ (.Name x pos) (odS κ i) :=
  ⟨pe_var hN hv hd hcd, ⟨fun j h => by cases h; rfl⟩⟩
theorem vo_e {e : Expr} (h : PE X e (tV (gd X) T κ k f)) : VO X κ e (odE T k f) := ⟨h, ⟨fun j z => by cases z⟩⟩
theorem va_nil : VA X κ [] [] := ⟨pa_nil, trivial⟩
theorem va_cons {e : Expr} {es : List Expr} {o : Od} {os : List Od} (h : VO X κ e o) (r : VA X κ es os) (hi : ∀ i, o.al = some i → i ∉ Ts os) (hs : starEach (e :: es) X.env = (false, eval e X.env) :: starEach es X.env := by rfl) : VA X κ (e :: es) (o :: os) :=
  ⟨pa_cons h.pe r.pa hs, h.wf, hi, r.wf⟩
theorem va_e {e : Expr} {es : List Expr} {os : List Od} (h : PE X e (tV (gd X) T κ k f)) (r : VA X κ es os) (hs : starEach (e :: es) X.env = (false, eval e X.env) :: starEach es X.env := by rfl) : VA X κ (e :: es) (odE T k f :: os) := va_cons (vo_e h) r (fun _ z => by cases z) hs
theorem va_var {i : Nat} {x : Str} {pos : Pos} {es : List Expr} {os : List Od} (hN : X.N[i]? = some x) (hv : Vis X.env.scope x) (hi : i ∉ Ts os) (r : VA X κ es os) (hd : (x == ("__debug__" : Str)) = false := by decide) (hcd : (x == ("__classdict__" : Str)) = false := by decide)
    (hs : starEach (.Name x pos :: es) X.env = (false, eval (.Name x pos) X.env) :: starEach es X.env := by rfl) : VA X κ (.Name x pos :: es) (odS κ i :: os) := va_cons (vo_var hN hv hd hcd) r (fun j z => by cases z; exact hi) hs
/-- by values: two operands, one -/
def r2 (r : R2) : List V → Hp → VK → Prop
  | [x, y], H, Q => r x y H Q
  | _, _, _ => False
def r1v (r : V → Hp → VK → Prop) : List V → Hp → VK → Prop
  | [x], H, Q => r x H Q
  | _, _, _ => False
abbrev NoT (o p : Od) : Prop := ∀ i, o.al = some i → i ∉ p.T
theorem wf1 {a : Expr} {oa : Od} (ha : VO X κ a oa) : WfSeq κ [oa] := ⟨ha.wf, fun i h z => (by cases z), trivial⟩
theorem wf2 {a b : Expr} {oa ob : Od} (ha : VO X κ a oa) (hb : VO X κ b ob) (hi : NoT oa ob) : WfSeq κ [oa, ob] := ⟨ha.wf, fun i h z => hi i h (by simpa [Ts] using z), hb.wf, fun i h z => (by cases z), trivial⟩
theorem op2_ok {a b : Expr} {oa ob : Od} {g : List D → Option D} {r : R2} (ha : VO X κ a oa) (hb : VO X κ b ob) (hi : NoT oa ob) (O : OpS (gd X) [oa, ob] k g (r2 r)) {σ : L2.St} {H : Hp} {Q : VK} (h : tV (gd X) (Ts [oa, ob]) κ k (opF g [oa, ob]) σ H Q) : tOp r (oa.te (gd X) κ) (ob.te (gd X) κ) σ H Q :=
  op_ok (wf2 ha hb hi) O h
/-- a op b -/
theorem ve_bin {a b : Expr} {op : Operator} {oa ob : Od} {g : List D → Option D} {r : R2} {pos : Pos} (ho : OpR X (binaryOp op) r) (O : OpS (gd X) [oa, ob] k g (r2 r)) (ha : VO X κ a oa) (hb : VO X κ b ob) (hi : NoT oa ob) : PE X (.BinOp a op b pos) (tV (gd X) (Ts [oa, ob]) κ k (opF g [oa, ob])) :=
  (pe_op ho ha.pe hb.pe).imp fun σ H Q h => op2_ok ha hb hi O h
theorem ve_un {a : Expr} {op : UnaryOp} {oa : Od} {g : List D → Option D} {r : V → Hp → VK → Prop} {pos : Pos} (ho : UnR X (unaryOp op) r) (O : OpS (gd X) [oa] k g (r1v r)) (ha : VO X κ a oa) : PE X (.UnaryOp op a pos) (tV (gd X) (Ts [oa]) κ k (opF g [oa])) :=
  (pe_un ho ha.pe).imp fun σ H Q h => op_ok (wf1 ha) O h
theorem ve_cmp {a b : Expr} {op : CmpOp} {oa ob : Od} {g : List D → Option D} {r : R2} {pos : Pos} (ho : OpR X (compareOp op) r) (O : OpS (gd X) [oa, ob] k g (r2 r)) (ha : VO X κ a oa) (hb : VO X κ b ob) (hi : NoT oa ob) (hm : behindInMarks op b = false := by first | exact nobehind _ (by decide) (by decide) | rfl) : PE X (.Compare a [op] [b] pos) (tV (gd X) (Ts [oa, ob]) κ k (opF g [oa, ob])) :=
  (pe_cmpR ho ha.pe hb.pe hm).imp fun σ H Q h => op2_ok ha hb hi O h
/-- o[i] -/
theorem ve_ix {a b : Expr} {oa ob : Od} {g : List D → Option D} {r : R2} {pos : Pos} (hr : IxR X r) (O : OpS (gd X) [oa, ob] k g (r2 r)) (ha : VO X κ a oa) (hb : VO X κ b ob) (hi : NoT oa ob) (hs : PlainIx b := by exact fun _ _ => rfl) : PE X (.Subscript a b pos) (tV (gd X) (Ts [oa, ob]) κ k (opF g [oa, ob])) :=
  (pe_ix hr ha.pe hb.pe hs).imp fun σ H Q h => op2_ok ha hb hi O h
/-- a slice -/
def rs0 (r : V → Option Int → Option Int → Hp → VK → Prop) : List V → Hp → VK → Prop
  | [x], H, Q => r x none none H Q
  | _, _, _ => False
def rsL (r : V → Option Int → Option Int → Hp → VK → Prop) : List V → Hp → VK → Prop
  | [x, l], H, Q => ∃ i, l = .int i ∧ r x (some i) none H Q
  | _, _, _ => False
def rsH (r : V → Option Int → Option Int → Hp → VK → Prop) : List V → Hp → VK → Prop
  | [x, l], H, Q => ∃ i, l = .int i ∧ r x none (some i) H Q
  | _, _, _ => False
def rsB (r : V → Option Int → Option Int → Hp → VK → Prop) : List V → Hp → VK → Prop
  | [x, l, u], H, Q => ∃ j, u = .int j ∧ ∃ i, l = .int i ∧ r x (some i) (some j) H Q
  | _, _, _ => False
theorem ve_slL {a b : Expr} {oa ob : Od} {g : List D → Option D} {r : V → Option Int → Option Int → Hp → VK → Prop} {pos p2 : Pos} (hr : SlR X r) (O : OpS (gd X) [oa, ob] k g (rsL r)) (ha : VO X κ a oa) (hb : VO X κ b ob) (hi : NoT oa ob) : PE X (.Subscript a (.Slice (some b) none none p2) pos) (tV (gd X) (Ts [oa, ob]) κ k (opF g [oa, ob])) :=
  (pe_slice hr ha.pe (po_some hb.pe) po_none).imp fun σ H Q h => op_ok (wf2 ha hb hi) O h
theorem ve_slH {a b : Expr} {oa ob : Od} {g : List D → Option D} {r : V → Option Int → Option Int → Hp → VK → Prop} {pos p2 : Pos} (hr : SlR X r) (O : OpS (gd X) [oa, ob] k g (rsH r)) (ha : VO X κ a oa) (hb : VO X κ b ob) (hi : NoT oa ob) : PE X (.Subscript a (.Slice none (some b) none p2) pos) (tV (gd X) (Ts [oa, ob]) κ k (opF g [oa, ob])) :=
  (pe_slice hr ha.pe po_none (po_some hb.pe)).imp fun σ H Q h => op_ok (wf2 ha hb hi) O h
end
/-! ### calls of what is built in -/
section
variable {X : Cx} {κ κ' T U : List Nat} {k : Nat} {f : Sem0} {os : List Od} {x : Str} {e : Expr} {es : List Expr} {id : String} {g : List D → Option D} {r : List V → Hp → VK → Prop} {p pos : Pos}
theorem ve_callB (hc : CallR X (.builtin id) r) (O : OpS (gd X) os k g r) (hg : Gl X x) (hm : X.mg x = none) (hv : bootBuiltins x = some (.builtin id)) (ha : VA X κ (e :: es) os) (hn : x ≠ "__name__" := by decide) (hdb : (x == ("__debug__" : Str)) = false := by decide)
    (he : starEach (e :: es) X.env = (false, eval e X.env) :: starEach es X.env := by rfl) (hpl : (backTo pos (starEach es X.env)).any (·.1) = false := by rfl) : PE X (.Call (.Name x p) (e :: es) [] pos) (tV (gd X) (Ts os) κ k (opF g os)) :=
  (pe_callB hc hg hm hv ha.pa hn hdb he hpl).imp fun σ H Q h => op_ok ha.wf O h
theorem ve_callTy {Ty : String} (hc : CallR X (.type Ty) r) (O : OpS (gd X) os k g r) (hg : Gl X x) (hm : X.mg x = none) (hv : bootBuiltins x = some (.type Ty)) (ha : VA X κ (e :: es) os) (hn : x ≠ "__name__" := by decide) (hdb : (x == ("__debug__" : Str)) = false := by decide)
    (he : starEach (e :: es) X.env = (false, eval e X.env) :: starEach es X.env := by rfl) (hpl : (backTo pos (starEach es X.env)).any (·.1) = false := by rfl) : PE X (.Call (.Name x p) (e :: es) [] pos) (tV (gd X) (Ts os) κ k (opF g os)) :=
  (pe_callTy hc hg hm hv ha.pa hn hdb he hpl).imp fun σ H Q h => op_ok ha.wf O h
/-- displays -/
def rTup : List V → Hp → VK → Prop := fun xs H1 Q => xs.length ≤ sizeLine ∧ ∀ p, H1 p = none → Q (.ref p) (upd H1 p (.tup xs))
def rLst : List V → Hp → VK → Prop := fun xs H1 Q => xs.length ≤ sizeLine ∧ ∀ p, H1 p = none → Q (.ref p) (upd H1 p (.lst xs))
theorem ve_tup {x1} (O : OpS (gd X) os k g rTup) (ha : VA X κ es os) : PE X (.Tuple es x1 pos) (tV (gd X) (Ts os) κ k (opF g os)) := (pe_tup ha.pa).imp fun σ H Q h => op_ok ha.wf O h
theorem ve_lst (O : OpS (gd X) os k g rLst) (ha : VA X κ es os) : PE X (.List es pos) (tV (gd X) (Ts os) κ k (opF g os)) := (pe_lst ha.pa).imp fun σ H Q h => op_ok ha.wf O h
end

/-! ### tests -/
section
variable {X : Cx} {κ T U : List Nat} {k : Nat} {f : Sem0} {t u : List D → Option (Bool × List D)} {pos : Pos} {a b c e : Expr} {rest : List Expr}
abbrev Tst := List D → Option (Bool × List D)
/-- an expression whose value is a bool -/
def tstF (f : Sem0) : Tst := fun ρ => (f ρ).bind fun p => match p.1 with
  | .bl b => some (b, p.2)
  | _ => none
def notF (t : Tst) : Tst := fun ρ => (t ρ).bind fun p => some (!p.1, p.2)
def andF (t u : Tst) : Tst := fun ρ => (t ρ).bind fun p => if p.1 = true then u p.2 else some (false, p.2)
def orF (t u : Tst) : Tst := fun ρ => (t ρ).bind fun p => if p.1 = true then some (true, p.2) else u p.2
def ifF (t : Tst) (f g : Sem0) : Sem0 := fun ρ => (t ρ).bind fun p => if p.1 = true then f p.2 else g p.2
/-- a test as a value -/
def blF (t : Tst) : Sem0 := fun ρ => (t ρ).bind fun p => some (.bl p.1, p.2)
theorem bl_own {G : Wd} {P : Addr → Prop} {H : Hp} {v : V} {b : Bool} {F : List Addr} (o : OwnK G P H k v (.bl b) F) : v = .bl b ∧ F = [] := by
  obtain ⟨d, e⟩ := o.of_flat rfl
  cases d
  exact ⟨rfl, e⟩
theorem tst_ok {σ : L2.St} {H : Hp} {Q : Bool → Hp → Prop} {G : Wd} (h : tVT G T κ (tstF f) σ H Q) : tV G T κ k f σ H fun x H' => ∃ b, x = .bl b ∧ Q b H' := by
  obtain ⟨P, ρ, Fs, b, ρ', R, e, q⟩ := h
  unfold tstF at e
  obtain ⟨⟨d, ρ1⟩, e1, e⟩ := Option.bind_eq_some_iff.mp e
  cases d with
  | bl c =>
    cases e
    exact ⟨P, ρ, Fs, _, _, R, e1, fun v H' P' F Fs' R' o nd fr E st gr => ⟨_, (bl_own o).1, q H' P' Fs' R' E st gr⟩⟩
  | _ => cases e
theorem vt_val (h : PE X e (tV (gd X) T κ k f)) (he : ∀ whole, isTrue e X.env whole = (do let v ← whole; standAt e.pos; holding [v] (truthy v)) := by intro _; rfl) : PT X e (tVT (gd X) T κ (tstF f)) :=
  (pt_val h he).imp fun σ H Q w => tst_ok w
theorem vt_cmp {op : CmpOp} {oa ob : Od} {g : List D → Option D} {r : R2} (ho : OpR X (compareOp op) r) (O : OpS (gd X) [oa, ob] 0 g (r2 r)) (ha : VO X κ a oa) (hb : VO X κ b ob) (hi : NoT oa ob) (hm : behindInMarks op b = false := by first | exact nobehind _ (by decide) (by decide) | rfl) : PT X (.Compare a [op] [b] pos) (tVT (gd X) (Ts [oa, ob]) κ (tstF (opF g [oa, ob]))) :=
  (pt_cmpR ho ha.pe hb.pe hm).imp fun σ H Q h => op2_ok (k := 0) (Q := fun x H' => ∃ k, x = .bl k ∧ Q k H') ha hb hi O (tst_ok h)
theorem vt_not (h : PT X a (tVT (gd X) T κ t)) : PT X (.UnaryOp .Not a pos) (tVT (gd X) T κ (notF t)) := (pt_not h).imp fun σ H Q ⟨P, ρ, Fs, b, ρ', R, e, q⟩ => by
  unfold notF at e
  obtain ⟨⟨c, ρ1⟩, e1, e⟩ := Option.bind_eq_some_iff.mp e
  cases e
  exact ⟨P, ρ, Fs, c, _, R, e1, q⟩
theorem and_ok {G : Wd} {σ : L2.St} {H : Hp} {Q : Bool → Hp → Prop} (h : tVT G (T ++ U) κ (andF t u) σ H Q) : tAnd (tVT G T κ t) (tVT G U κ u) σ H Q := by
  obtain ⟨P, ρ, Fs, b, ρ', R, e, q⟩ := h
  unfold andF at e
  obtain ⟨⟨c, ρ1⟩, e1, e⟩ := Option.bind_eq_some_iff.mp e
  refine ⟨P, ρ, Fs, c, ρ1, R, e1, fun H' P' Fs' R' E st gr => ?_⟩
  cases c with
  | true => exact ⟨P', ρ1, Fs', b, ρ', R', e, fun H2 P2 Fs2 R2 E2 st2 gr2 => let s := Stp.trans R ⟨E, st, gr⟩ ⟨E2, st2, gr2⟩; q H2 P2 Fs2 R2 s.ext s.st s.gr⟩
  | false =>
    cases e
    have s := Stp.mono (U := T ++ U) R (fun i hi => List.mem_append_left _ hi) ⟨E, st, gr⟩
    exact q H' P' Fs' R' s.ext s.st s.gr
theorem or_ok {G : Wd} {σ : L2.St} {H : Hp} {Q : Bool → Hp → Prop} (h : tVT G (T ++ U) κ (orF t u) σ H Q) : tOr (tVT G T κ t) (tVT G U κ u) σ H Q := by
  obtain ⟨P, ρ, Fs, b, ρ', R, e, q⟩ := h
  unfold orF at e
  obtain ⟨⟨c, ρ1⟩, e1, e⟩ := Option.bind_eq_some_iff.mp e
  refine ⟨P, ρ, Fs, c, ρ1, R, e1, fun H' P' Fs' R' E st gr => ?_⟩
  cases c with
  | false => exact ⟨P', ρ1, Fs', b, ρ', R', e, fun H2 P2 Fs2 R2 E2 st2 gr2 => let s := Stp.trans R ⟨E, st, gr⟩ ⟨E2, st2, gr2⟩; q H2 P2 Fs2 R2 s.ext s.st s.gr⟩
  | true =>
    cases e
    have s := Stp.mono (U := T ++ U) R (fun i hi => List.mem_append_left _ hi) ⟨E, st, gr⟩
    exact q H' P' Fs' R' s.ext s.st s.gr
theorem _root_.L2.PW.imp {X : Cx} {e : Expr} {t t' : TT} (h : PW X e t) (i : ∀ σ H Q, t' σ H Q → t σ H Q) : PW X e t' := ⟨fun w pins s σ H Q I z => h.run w pins s σ H Q I (i σ H Q z)⟩
theorem vw_and1 (ha : PT X a (tVT (gd X) T κ t)) : PW X (.BoolOp .And [a] pos) (tVT (gd X) T κ t) := pw_and1 ha
theorem vw_or1 (ha : PT X a (tVT (gd X) T κ t)) : PW X (.BoolOp .Or [a] pos) (tVT (gd X) T κ t) := pw_or1 ha
theorem vw_and (ha : PT X a (tVT (gd X) T κ t)) (hb : PW X (.BoolOp .And (b :: rest) pos) (tVT (gd X) U κ u)) : PW X (.BoolOp .And (a :: b :: rest) pos) (tVT (gd X) (T ++ U) κ (andF t u)) := (pw_and ha hb).imp fun _ _ _ h => and_ok h
theorem vw_or (ha : PT X a (tVT (gd X) T κ t)) (hb : PW X (.BoolOp .Or (b :: rest) pos) (tVT (gd X) U κ u)) : PW X (.BoolOp .Or (a :: b :: rest) pos) (tVT (gd X) (T ++ U) κ (orF t u)) := (pw_or ha hb).imp fun _ _ _ h => or_ok h
/-- a if t else b -/
theorem ve_if {g : Sem0} {V : List Nat} (hc : PT X c (tVT (gd X) T κ t)) (ha : PE X a (tV (gd X) U κ k f)) (hb : PE X b (tV (gd X) V κ k g)) : PE X (.IfExp c a b pos) (tV (gd X) (T ++ (U ++ V)) κ k (ifF t f g)) :=
  (pe_ifExp hc ha hb).imp fun σ H Q ⟨P, ρ, Fs, d, ρ', R, e, q⟩ => by
    unfold ifF at e
    obtain ⟨⟨c, ρ1⟩, e1, e⟩ := Option.bind_eq_some_iff.mp e
    refine ⟨P, ρ, Fs, c, ρ1, R, e1, fun H' P' Fs' R' E st gr => ?_⟩
    cases c with
    | true => exact ⟨P', ρ1, Fs', d, ρ', R', e, fun v H2 P2 F Fs2 R2 o nd fr E2 st2 gr2 => let s := Stp.mono (U := T ++ (U ++ V)) R (fun i h => by simp only [List.mem_append] at *; rcases h with h | h <;> simp [h]) (Stp.trans R ⟨E, st, gr⟩ ⟨E2, st2, gr2⟩); q v H2 P2 F Fs2 R2 o nd (fun a m => ⟨(fr a m).1, back_none E (fr a m).2.1, (fr a m).2.2⟩) s.ext s.st s.gr⟩
    | false => exact ⟨P', ρ1, Fs', d, ρ', R', e, fun v H2 P2 F Fs2 R2 o nd fr E2 st2 gr2 => let s := Stp.mono (U := T ++ (U ++ V)) R (fun i h => by simp only [List.mem_append] at *; rcases h with h | h <;> simp [h]) (Stp.trans R ⟨E, st, gr⟩ ⟨E2, st2, gr2⟩); q v H2 P2 F Fs2 R2 o nd (fun a m => ⟨(fr a m).1, back_none E (fr a m).2.1, (fr a m).2.2⟩) s.ext s.st s.gr⟩
/-- tests of truth -/
def truD : D → Option Bool
  | .non => some false
  | .bl b => some b
  | .int i => some (i != 0)
  | .str s => if s.length ≤ sizeLine then some ((s.length : Int) != 0) else none
  | .lst xs => some (!xs.isEmpty)
  | .tup xs => some (!xs.isEmpty)
  | .dct 0 ks _ => some (!ks.isEmpty)
  | .dct .. => none
  | .und => none
end
end VS

set_option Elab.async false
set_option linter.all false
set_option maxRecDepth 100000
/-! Functions over data: promises, bodies, calls. -/
namespace VS
open PySem PySem.Spec PyProof.Rows L2

/-- a def's promise: f on the arguments' data; T: the parameters that are changed in place -/
def spD (G : Wd) (T κ : List Nat) (k : Nat) (f : Sem0) : Sp := fun vs H Q _ => tV G T κ k f (vs.map some) H Q
/-- the parameters behind a call: those of Φ as they are now -/
def rest (Φ : List Nat) : Nat → List D → List D → List D
  | _, [], _ => []
  | j, d :: ds, es => (if Φ.contains j then es.headD .und else d) :: rest Φ (j + 1) ds es.tail
def fnF (Φ : List Nat) (n : Nat) (s : SemS) : Sem0 := fun ds => (s (ds ++ List.replicate (n - ds.length) .und)).bind fun o => match o with
  | .rt d ρ' => some (d, rest Φ 0 ds ρ')
  | .nx ρ' => some (.non, rest Φ 0 ds ρ')
  | _ => none
theorem rest_length (Φ : List Nat) : ∀ (j : Nat) (ds es : List D), (rest Φ j ds es).length = ds.length
  | _, [], _ => rfl
  | j, _ :: ds, es => by unfold rest; rw [List.length_cons, List.length_cons, rest_length Φ]
theorem rest_get (Φ : List Nat) : ∀ (j : Nat) (ds es : List D) (i : Nat), (rest Φ j ds es)[i]? = if i < ds.length then (if Φ.contains (j + i) then some (es[i]?.getD .und) else ds[i]?) else none
  | j, [], es, i => by simp [rest]
  | j, d :: ds, es, 0 => by
    unfold rest
    cases es <;> simp
    all_goals split <;> rfl
  | j, d :: ds, es, i + 1 => by
    unfold rest
    rw [List.getElem?_cons_succ, rest_get Φ (j + 1) ds es.tail i, List.length_cons, List.getElem?_cons_succ, Nat.add_right_comm, Nat.add_assoc j i 1]
    cases es <;> simp
section
variable {K : PySem.W.Frag} {P : Program} {w : World} {mg : Str → Option Value} {base : Heap}
theorem start_get {N : List Str} {vs : List V} {i : Nat} (h : i < vs.length) : (L2.start N vs)[i]? = (vs.map some)[i]? := by
  unfold L2.start
  rw [List.getElem?_append_left (by simpa using h)]
/-- what a body ends with is what the promise says -/
theorem body_ok {G : Wd} {N : List Str} {Φ κp κl κ' : List Nat} {k : Nat} {s : SemS} (hl : (κp ++ κl).length = N.length) (hz : ∀ i, i ∉ Φ → κp.getD i 0 = 0) {vs : List V} {H : Hp} {Q : VK} (h : tV G Φ κp k (fnF Φ N.length s) (vs.map some) H Q) :
    tS G Φ (κp ++ κl) κ' [] k s { nx := fun _ H' => Q .non H', rt := Q } (L2.start N vs) H := by
  obtain ⟨P0, ds, Fs0, d, ρ', R, e, q⟩ := h
  have hlen : vs.length = ds.length := by have := R.len; simpa using this
  have hkl : κp.length = ds.length := R.lenk
  unfold fnF at e
  obtain ⟨o, e1, e⟩ := Option.bind_eq_some_iff.mp e
  have e0 : N.length - ds.length = κl.length := by rw [List.length_append] at hl; omega
  have hF : ∀ i a, a ∈ Fs0 i → i < ds.length := fun i a m => by
    obtain ⟨d, v, h1, _⟩ := R.some m
    obtain ⟨h, _⟩ := List.getElem?_eq_some_iff.mp h1
    exact h
  have hkp : ∀ i, i < ds.length → (κp ++ κl).getD i 0 = κp.getD i 0 := fun i hi => by
    rw [List.getD_eq_getElem?_getD, List.getElem?_append_left (by omega), ← List.getD_eq_getElem?_getD]
  have R0 : Rep G P0 H (L2.start N vs) (ds ++ List.replicate (N.length - ds.length) .und) (κp ++ κl) Fs0 := by
    refine ⟨by unfold L2.start; simp; omega, by simp; omega, fun i d hi hu => ?_, fun i hi => ?_, R.dj, R.nd, R.np, R.pt⟩
    · have hlt : i < ds.length := by
        by_cases c : i < ds.length
        · exact c
        · rw [List.getElem?_append_right (by omega), List.getElem?_replicate] at hi
          split at hi
          · cases hi; exact absurd rfl hu
          · cases hi
      rw [List.getElem?_append_left hlt] at hi
      obtain ⟨v, h1, h2⟩ := R.at_ i d hi hu
      exact ⟨v, by rw [start_get (by omega)]; exact h1, by rw [hkp i hlt]; exact h2⟩
    · by_cases hlt : i < ds.length
      · exact R.un i fun d hd => hi d (by rw [List.getElem?_append_left hlt]; exact hd)
      · cases hm : Fs0 i with
        | nil => rfl
        | cons a r => exact absurd (hF i a (by rw [hm]; exact List.mem_cons_self)) hlt
  have own0 : ∀ i a, a ∈ Fs0 i → i ∈ Φ := fun i a m => Classical.byContradiction fun hi => by
    obtain ⟨d, v, h1, h2, h3, h4⟩ := R.some m
    rw [hz i hi] at h4
    rw [h4.2] at m
    cases m
  let M : Fm := ⟨Φ, κp ++ κl, L2.start N vs, P0, H, Fs0, []⟩
  have A0 : M.At G P0 H (L2.start N vs) (κp ++ κl) Fs0 := ⟨Ext.refl (R0.zm _) (R0.zp _), fun _ _ => rfl, fun _ _ => rfl, fun i a m => .inl ⟨own0 i a m, m⟩, fun m hm => by cases hm⟩
  have fin : ∀ {v : V} {d' : D} {σ' : L2.St} {H' : Hp} {P' : Addr → Prop} {Fs' : Nat → List Addr} {κ'' : List Nat} {F : List Addr} {ρ1 : List D}, Rep G P' H' σ' ρ1 κ'' Fs' → M.At G P' H' σ' κ'' Fs' → OwnK G P' H' k v d' F → F.Nodup → (∀ a ∈ F, ¬ P' a ∧ H a = none ∧ ∀ i, a ∉ Fs' i) →
      d' = d → rest Φ 0 ds ρ1 = ρ' → Q v H' := by
    intro v d' σ' H' P' Fs' κ'' F ρ1 R' A' ow nd fr ed er
    subst ed
    subst er
    let Fr : Nat → List Addr := fun i => if i < ds.length ∧ Φ.contains i = true then Fs' i else []
    have hFr : ∀ i a, a ∈ Fr i → a ∈ Fs' i ∧ i < ds.length ∧ i ∈ Φ := fun i a m => by
      by_cases c : i < ds.length ∧ Φ.contains i = true
      · have : Fr i = Fs' i := if_pos c
        rw [this] at m
        exact ⟨m, c.1, by simpa using c.2⟩
      · have : Fr i = [] := if_neg c
        rw [this] at m; cases m
    refine q v H' P' F Fr ⟨by simpa [rest_length] using hlen, by rw [rest_length]; exact hkl, fun i d hi hu => ?_, fun i hi => ?_, fun i j a h1 h2 => R'.dj i j a (hFr i a h1).1 (hFr j a h2).1, fun i => ?_, fun i a m => R'.np i a (hFr i a m).1, R'.pt⟩ ow nd (fun a m => ⟨(fr a m).1, (fr a m).2.1, fun i z => (fr a m).2.2 i (hFr i a z).1⟩) A'.ext (fun i hi => ?_) fun i a m => ?_
    · rw [rest_get] at hi
      split at hi
      · rename_i hlt
        rw [Nat.zero_add] at hi
        split at hi
        · rename_i hc
          have hΦ : i ∈ Φ := by simpa using hc
          have e2 : ρ1[i]? = some d := by
            cases z : ρ1[i]? with
            | none => rw [z] at hi; cases hi; exact absurd rfl hu
            | some y => rw [z] at hi; exact hi
          obtain ⟨v1, h1, h2⟩ := R'.at_ i d e2 hu
          have h3 := A'.same i hΦ
          have h4 := A'.kin i hΦ
          refine ⟨v1, ?_, ?_⟩
          · rw [← start_get (N := N) (by omega)]
            exact h3.symm.trans h1
          · have : Fr i = Fs' i := if_pos ⟨hlt, hc⟩
            rw [this]
            rw [h4, show M.κ0.getD i 0 = κp.getD i 0 from hkp i hlt] at h2
            exact h2
        · rename_i hc
          have hΦ : i ∉ Φ := by simpa using hc
          obtain ⟨v1, h1, h2⟩ := R.at_ i d hi hu
          rw [hz i hΦ] at h2 ⊢
          have : Fr i = [] := if_neg fun z => hc z.2
          rw [this]
          exact ⟨v1, h1, h2.1.ext A'.ext, rfl⟩
      · cases hi
    · by_cases c : i < ds.length ∧ Φ.contains i = true
      · have : Fr i = Fs' i := if_pos c
        rw [this]
        refine R'.un i fun d hd => hi d ?_
        rw [rest_get, if_pos c.1, Nat.zero_add, if_pos c.2, hd]
        rfl
      · exact if_neg c
    · by_cases c : i < ds.length ∧ Φ.contains i = true
      · have : Fr i = Fs' i := if_pos c
        rw [this]; exact R'.nd i
      · have : Fr i = [] := if_neg c
        rw [this]; exact List.nodup_nil
    · have hc : Φ.contains i = false := by simpa using hi
      have e2 : Fr i = [] := if_neg fun z => by rw [hc] at z; cases z.2
      refine ⟨?_, ?_⟩
      · rw [e2]
        cases hm : Fs0 i with
        | nil => rfl
        | cons a r => exact absurd (own0 i a (by rw [hm]; exact List.mem_cons_self)) hi
      · rw [rest_get, Nat.zero_add, hc]
        by_cases hlt : i < ds.length
        · rw [if_pos hlt]; rfl
        · rw [if_neg hlt, List.getElem?_eq_none (by omega)]
    · obtain ⟨m, _, _⟩ := hFr i a m
      rcases A'.own i a m with z | z
      · exact .inl z.2
      · exact .inr z
  refine ⟨M, P0, _, Fs0, o, rfl, R0, A0, e1, ?_⟩
  cases o with
  | nx ρ1 =>
    injection e with e; injection e with e2 e3
    exact fun σ' H' P' Fs' R' A' => fin R' A' (F := []) (OwnK.flat (F := []) .non rfl) List.nodup_nil (fun a m => by cases m) e2 e3
  | rt d1 ρ1 =>
    injection e with e; injection e with e2 e3
    exact fun v σ' H' P' Fs' κ'' F R' A' ow nd fr => fin R' A' ow nd fr e2 e3
  | bk _ => cases e
  | ct _ => cases e
theorem fn_ok {x qual : Str} {st : Stmt} {f : Addr} {fd : FuncData} {N ps : List Str} {lv k : Nat} {Φ κp κl κ' : List Nat} {s : SemS} (F : Fun K x qual st f fd) (S : FnScope N ps (defScope st)) (hp : κp.length = ps.length) (hl : (κp ++ κl).length = N.length) (hz : ∀ i, i ∉ Φ → κp.getD i 0 = 0)
    (hb : ∀ (cdv : Value) (A : Around) (outer : List Env) (s0 : Shared) (H : Hp) (E : XK), Room lv (A.deeper (envOfC qual (defScope st) s0.heap.objs.size f cdv)) → PSs (cxOf CX0 P w K mg base N qual (defScope st) f cdv A outer s0 H E).nox (defBody st) (tS ⟨K, P, w⟩ Φ (κp ++ κl) κ' [] k s)) :
    FnOk P w K mg base CX0 (lv + 1) f fd ps (spD ⟨K, P, w⟩ Φ κp k (fnF Φ N.length s)) := by
  refine F.ok S (fun vs H Q E h => ?_) fun cdv A outer s0 H vs Q E hr h => ⟨_, hb cdv A outer s0 H E hr, body_ok hl hz h⟩
  obtain ⟨P0, ds, Fs0, d, ρ', R, e, q⟩ := h
  have h1 := R.len
  have h2 := R.lenk
  rw [List.length_map] at h1
  omega
end
end VS

set_option Elab.async false
set_option linter.all false
set_option maxRecDepth 100000
/-! Calls of own functions. -/
namespace VS
open PySem PySem.Spec PyProof.Rows L2

def alS : List Od → List Nat
  | [] => []
  | o :: os => match o.al with
    | some i => i :: alS os
    | none => alS os
/-- where slot i is an argument -/
def argAt (i : Nat) : List Od → Option Nat
  | [] => none
  | o :: os => if o.al = some i then some 0 else (argAt i os).map (· + 1)
/-- the slots that were given are as they are now -/
def wb : List Od → List D → List D → List D
  | o :: os, d :: ds, ρ => match o.al with
    | some i => wb os ds (ρ.set i d)
    | none => wb os ds ρ
  | _, _, ρ => ρ
def callF (os : List Od) (fn : Sem0) : Sem0 := fun ρ => (seqF os ρ).bind fun p => (fn p.1).bind fun q => some (q.1, wb os q.2 p.2)
theorem argAt_none {i : Nat} : ∀ {os : List Od}, argAt i os = none → i ∉ alS os
  | [], _ => by simp [alS]
  | o :: os, h => by
    unfold argAt at h
    split at h
    · cases h
    · rename_i hn
      have h2 : argAt i os = none := by
        cases e : argAt i os with
        | none => rfl
        | some j => rw [e] at h; cases h
      have := argAt_none h2
      unfold alS
      cases ha : o.al with
      | none => exact this
      | some j =>
        simp only [List.mem_cons, not_or]
        exact ⟨fun e => hn (by rw [ha, e]), this⟩
theorem argAt_some {i j : Nat} : ∀ {os : List Od}, argAt i os = some j → ∃ o, os[j]? = some o ∧ o.al = some i ∧ i ∈ alS os
  | [], h => by cases h
  | o :: os, h => by
    unfold argAt at h
    split at h
    · rename_i ha
      cases h
      exact ⟨o, rfl, ha, by unfold alS; rw [ha]; exact List.mem_cons_self⟩
    · cases e : argAt i os with
      | none => rw [e] at h; cases h
      | some j' =>
        rw [e] at h
        cases h
        obtain ⟨o', h1, h2, h3⟩ := argAt_some e
        refine ⟨o', by simpa using h1, h2, ?_⟩
        unfold alS
        split
        · exact List.mem_cons_of_mem _ h3
        · exact h3
theorem argAt_of {i j : Nat} : ∀ {os : List Od} {o : Od}, (alS os).Nodup → os[j]? = some o → o.al = some i → argAt i os = some j
  | [], _, _, h, _ => by simp at h
  | o' :: os, o, nd, h, ha => by
    unfold argAt
    cases j with
    | zero =>
      simp at h
      subst h
      rw [if_pos ha]
    | succ j =>
      have h' : os[j]? = some o := by simpa using h
      have nd' : (alS os).Nodup := by
        unfold alS at nd
        split at nd
        · exact (List.nodup_cons.mp nd).2
        · exact nd
      have r := argAt_of nd' h' ha
      have hne : o'.al ≠ some i := fun z => by
        unfold alS at nd
        rw [z] at nd
        obtain ⟨_, _, _, q⟩ := argAt_some r
        exact (List.nodup_cons.mp nd).1 q
      rw [if_neg hne, r]
      rfl
theorem wb_length : ∀ (os : List Od) (ds ρ : List D), (wb os ds ρ).length = ρ.length
  | [], _, _ => by unfold wb; rfl
  | o :: os, [], _ => by unfold wb; rfl
  | o :: os, d :: ds, ρ => by
    unfold wb
    split
    · rw [wb_length os]; simp
    · exact wb_length os ds ρ
theorem wb_get (i : Nat) : ∀ (os : List Od) (ds ρ : List D), (alS os).Nodup → ds.length = os.length → (wb os ds ρ)[i]? = match argAt i os with
    | some j => if i < ρ.length then ds[j]? else none
    | none => ρ[i]?
  | [], ds, ρ, _, _ => by unfold wb argAt; rfl
  | o :: os, [], ρ, _, h => by cases h
  | o :: os, d :: ds, ρ, nd, h => by
    have h' : ds.length = os.length := by simpa using h
    unfold wb argAt
    cases ha : o.al with
    | none =>
      have nd' : (alS os).Nodup := by unfold alS at nd; rw [ha] at nd; exact nd
      simp only
      rw [wb_get i os ds ρ nd' h', if_neg (by simp)]
      cases e : argAt i os <;> simp
    | some l =>
      have nd1 : (l :: alS os).Nodup := by unfold alS at nd; rw [ha] at nd; exact nd
      obtain ⟨n1, n2⟩ := List.nodup_cons.mp nd1
      simp only
      rw [wb_get i os ds _ n2 h', List.length_set]
      by_cases hl : l = i
      · subst hl
        have e : argAt l os = none := by
          cases e : argAt l os with
          | none => rfl
          | some j => exact absurd (argAt_some e).choose_spec.2.2 n1
        rw [e, if_pos rfl]
        simp only [List.getElem?_cons_zero]
        by_cases c : l < ρ.length
        · rw [if_pos c, List.getElem?_set_self c]
        · rw [if_neg c, List.getElem?_eq_none (by simpa using c)]
      · rw [if_neg (by simpa using hl)]
        cases e : argAt i os with
        | none => simp [List.getElem?_set_ne hl]
        | some j => simp
section
variable {R : Od → V → D → List Addr → Prop}
theorem Quad.length : ∀ {os : List Od} {vs : List V} {ds : List D} {Gs : List (List Addr)}, Quad R os vs ds Gs → vs.length = os.length ∧ ds.length = os.length ∧ Gs.length = os.length
  | _, _, _, _, .nil => ⟨rfl, rfl, rfl⟩
  | _, _, _, _, .cons _ q => by obtain ⟨a, b, c⟩ := q.length; simp [a, b, c]
theorem Quad.get : ∀ {os : List Od} {vs : List V} {ds : List D} {Gs : List (List Addr)} {j : Nat} {d : D}, Quad R os vs ds Gs → ds[j]? = some d → ∃ o v F, os[j]? = some o ∧ vs[j]? = some v ∧ Gs[j]? = some F ∧ R o v d F
  | _, _, _, _, _, _, .nil, h => by simp at h
  | _, _, _, _, 0, d, .cons r q, h => by simp at h; subst h; exact ⟨_, _, _, rfl, rfl, rfl, r⟩
  | _, _, _, _, j + 1, d, .cons r q, h => by
    obtain ⟨o, v, F, a, b, c, e⟩ := Quad.get (j := j) q (by simpa using h)
    exact ⟨o, v, F, by simpa using a, by simpa using b, by simpa using c, e⟩
theorem Quad.getO : ∀ {os : List Od} {vs : List V} {ds : List D} {Gs : List (List Addr)} {j : Nat} {o : Od}, Quad R os vs ds Gs → os[j]? = some o → ∃ v d F, vs[j]? = some v ∧ ds[j]? = some d ∧ Gs[j]? = some F ∧ R o v d F
  | _, _, _, _, _, _, .nil, h => by simp at h
  | _, _, _, _, 0, d, .cons r q, h => by simp at h; subst h; exact ⟨_, _, _, rfl, rfl, rfl, r⟩
  | _, _, _, _, j + 1, d, .cons r q, h => by
    obtain ⟨v, d, F, b, b', c, e⟩ := Quad.getO (j := j) q (by simpa using h)
    exact ⟨v, d, F, by simpa using b, by simpa using b', by simpa using c, e⟩
end
/-- what the temps are: disjoint -/
theorem temps_at {os : List Od} : ∀ {Gs : List (List Addr)} {j : Nat} {o : Od} {F : List Addr}, os[j]? = some o → o.al = none → Gs[j]? = some F → ∀ a ∈ F, a ∈ temps os Gs := by
  induction os with
  | nil => intro Gs j o F h; simp at h
  | cons o' os ih =>
    intro Gs j o F h ha hG a m
    cases Gs with
    | nil => simp at hG
    | cons F' Gs =>
      unfold temps
      cases j with
      | zero =>
        simp at h hG
        subst h
        subst hG
        rw [ha]
        exact List.mem_append_left _ m
      | succ j =>
        have := ih (j := j) (by simpa using h) ha (by simpa using hG) a m
        split
        · exact this
        · exact List.mem_append_right _ this
theorem temps_dj {os : List Od} : ∀ {Gs : List (List Addr)} {j l : Nat} {o o' : Od} {F F' : List Addr} {a : Addr}, (temps os Gs).Nodup → os[j]? = some o → o.al = none → Gs[j]? = some F → os[l]? = some o' → o'.al = none → Gs[l]? = some F' → a ∈ F → a ∈ F' → j = l := by
  induction os with
  | nil => intro Gs j l o o' F F' a _ h; simp at h
  | cons o0 os ih =>
    intro Gs j l o o' F F' a nd h ha hG h' ha' hG' m m'
    cases Gs with
    | nil => simp at hG
    | cons F0 Gs =>
      unfold temps at nd
      have nd2 : (temps os Gs).Nodup := by
        split at nd
        · exact nd
        · exact (List.nodup_append.mp nd).2.1
      cases j with
      | zero =>
        cases l with
        | zero => rfl
        | succ l =>
          simp at h hG
          subst h
          subst hG
          rw [ha] at nd
          exact absurd rfl ((List.nodup_append.mp nd).2.2 a m a (temps_at (j := l) (by simpa using h') ha' (by simpa using hG') a m'))
      | succ j =>
        cases l with
        | zero =>
          simp at h' hG'
          subst h'
          subst hG'
          rw [ha'] at nd
          exact absurd rfl ((List.nodup_append.mp nd).2.2 a m' a (temps_at (j := j) (by simpa using h) ha (by simpa using hG) a m))
        | succ l => rw [ih (j := j) (l := l) nd2 (by simpa using h) ha (by simpa using hG) (by simpa using h') ha' (by simpa using hG') m m']
theorem temps_nd {os : List Od} : ∀ {Gs : List (List Addr)} {j : Nat} {o : Od} {F : List Addr}, (temps os Gs).Nodup → os[j]? = some o → o.al = none → Gs[j]? = some F → F.Nodup := by
  induction os with
  | nil => intro Gs j o F _ h; simp at h
  | cons o0 os ih =>
    intro Gs j o F nd h ha hG
    cases Gs with
    | nil => simp at hG
    | cons F0 Gs =>
      unfold temps at nd
      cases j with
      | zero =>
        simp at h hG
        subst h
        subst hG
        rw [ha] at nd
        exact (List.nodup_append.mp nd).1
      | succ j =>
        refine ih (j := j) ?_ (by simpa using h) ha (by simpa using hG)
        split at nd
        · exact nd
        · exact (List.nodup_append.mp nd).2.1
section
variable {X : Cx} {κ T : List Nat} {k : Nat}
/-- a call by data: the callee's frame out of the arguments, the caller's behind it -/
theorem call_at {G : Wd} {os : List Od} {Tc κp : List Nat} {fn : Sem0} {σ : L2.St} {H : Hp} {Q : VK} (wf : WfSeq κ os) (hκ : os.map (·.k) = κp) (nd : (alS os).Nodup) (h : tV G (Ts os ++ alS os) κ k (callF os fn) σ H Q) :
    argsT G κ os σ H fun vs H1 => tV G Tc κp k fn (vs.map some) H1 Q := by
  obtain ⟨P, ρ, Fs, d, ρ', R, e, q⟩ := h
  unfold callF at e
  obtain ⟨⟨ds, ρ1⟩, e1, e⟩ := Option.bind_eq_some_iff.mp e
  obtain ⟨⟨d', ds'⟩, e2, e⟩ := Option.bind_eq_some_iff.mp e
  cases e
  refine args_ok os wf R e1 fun vs H1 P1 Gs Fs1 R1 qd ndt fr E st gr => ?_
  obtain ⟨l1, l2, l3⟩ := qd.length
  let Fc : Nat → List Addr := fun j => Gs.getD j []
  have hFc : ∀ j F, Gs[j]? = some F → Fc j = F := fun j F h => by show Gs.getD j [] = F; rw [List.getD_eq_getElem?_getD, h]; rfl
  have hFn : ∀ j, Gs[j]? = none → Fc j = [] := fun j h => by show Gs.getD j [] = []; rw [List.getD_eq_getElem?_getD, h]; rfl
  -- an address of an argument
  have hat : ∀ j a, a ∈ Fc j → ∃ o v d F, os[j]? = some o ∧ vs[j]? = some v ∧ ds[j]? = some d ∧ Gs[j]? = some F ∧ OdAt G P1 H1 σ Fs1 o v d F ∧ a ∈ F := fun j a m => by
    cases hg : Gs[j]? with
    | none => rw [hFn j hg] at m; cases m
    | some F =>
      rw [hFc j F hg] at m
      have hj : j < os.length := by
        obtain ⟨h, _⟩ := List.getElem?_eq_some_iff.mp hg
        omega
      obtain ⟨v, d, F', a1, a2, a3, a4⟩ := qd.getO (List.getElem?_eq_getElem hj)
      rw [hg] at a3
      cases a3
      exact ⟨_, v, d, F, List.getElem?_eq_getElem hj, a1, a2, rfl, a4, m⟩
  have npc : ∀ j a, a ∈ Fc j → ¬ P1 a := fun j a m => by
    obtain ⟨o, v, d, F, h1, h2, h3, h4, h5, m⟩ := hat j a m
    obtain ⟨h6, h7⟩ := h5
    cases ha : o.al with
    | some i => rw [ha] at h7; obtain ⟨rfl, _⟩ := h7; exact R1.np i a m
    | none => rw [ha] at h7; exact (h7 a m).1
  have Rc : Rep G P1 H1 (vs.map some) ds κp Fc := by
    refine ⟨by simp [l1, l2], by rw [← hκ]; simp [l2], fun j d hj hu => ?_, fun j hj => ?_, fun j l a m m' => ?_, fun j => ?_, npc, R1.pt⟩
    · obtain ⟨o, v, F, h1, h2, h3, h4⟩ := qd.get hj
      refine ⟨v, by rw [List.getElem?_map, h2]; rfl, ?_⟩
      rw [hFc j F h3, ← hκ, List.getD_eq_getElem?_getD, List.getElem?_map, h1]
      exact h4.1
    · cases hm : Fc j with
      | nil => rfl
      | cons a r =>
        obtain ⟨o, v, d, F, h1, h2, h3, h4, h5, m⟩ := hat j a (by rw [hm]; exact List.mem_cons_self)
        have := hj d h3
        subst this
        exact h5.1.ne_und.elim
    · obtain ⟨o, v, d, F, h1, h2, h3, h4, h5, ma⟩ := hat j a m
      obtain ⟨o', v', d', F', h1', h2', h3', h4', h5', ma'⟩ := hat l a m'
      have k1 := h5.2
      have k2 := h5'.2
      cases ha : o.al with
      | some i =>
        rw [ha] at k1
        obtain ⟨rfl, _⟩ := k1
        cases ha' : o'.al with
        | some i' =>
          rw [ha'] at k2
          obtain ⟨rfl, _⟩ := k2
          have : i = i' := R1.dj i i' a ma ma'
          subst this
          have x1 := argAt_of nd h1 ha
          have x2 := argAt_of nd h1' ha'
          rw [x1] at x2
          exact Option.some.inj x2
        | none => rw [ha'] at k2; exact absurd ma ((k2 a ma').2 i)
      | none =>
        rw [ha] at k1
        cases ha' : o'.al with
        | some i' =>
          rw [ha'] at k2
          obtain ⟨rfl, _⟩ := k2
          exact absurd ma' ((k1 a ma).2 i')
        | none => exact temps_dj ndt h1 ha h4 h1' ha' h4' ma ma'
    · cases hg : Gs[j]? with
      | none => rw [hFn j hg]; exact List.nodup_nil
      | some F =>
        rw [hFc j F hg]
        have hj : j < os.length := by
          obtain ⟨h, _⟩ := List.getElem?_eq_some_iff.mp hg
          omega
        obtain ⟨v, d, F', a1, a2, a3, a4⟩ := qd.getO (List.getElem?_eq_getElem hj)
        rw [hg] at a3
        cases a3
        cases ha : (os[j]).al with
        | some i => have := a4.2; rw [ha] at this; rw [this.1]; exact R1.nd i
        | none => exact temps_nd ndt (List.getElem?_eq_getElem hj) ha hg
  refine ⟨P1, ds, Fc, d', ds', Rc, e2, fun v H2 P2 F Fc' R2 ow nf fr2 E2 st2 gr2 => ?_⟩
  -- the caller behind it
  have ld : ds'.length = os.length := by
    have := R2.lenk
    rw [← hκ, List.length_map] at this
    omega
  let Fw : Nat → List Addr := fun i => match argAt i os with
    | some j => Fc' j
    | none => Fs1 i
  have wS : ∀ {i j}, argAt i os = some j → Fw i = Fc' j := fun {i j} h => by show (match argAt i os with | some j => Fc' j | none => Fs1 i) = _; rw [h]
  have wN : ∀ {i}, argAt i os = none → Fw i = Fs1 i := fun {i} h => by show (match argAt i os with | some j => Fc' j | none => Fs1 i) = _; rw [h]
  have slot : ∀ {i j}, argAt i os = some j → Fc j = Fs1 i ∧ (vs.map some)[j]? = σ[i]? ∧ κp.getD j 0 = κ.getD i 0 := fun {i j} h => by
    obtain ⟨o, h1, h2, _⟩ := argAt_some h
    obtain ⟨v, d, F', a1, a2, a3, a4⟩ := qd.getO h1
    have := a4.2
    rw [h2] at this
    have wo : o = odS κ i := by
      have : ∀ {os : List Od} {j : Nat} {o : Od}, WfSeq κ os → os[j]? = some o → o.Wf κ := by
        intro os
        induction os with
        | nil => intro j o _ h; simp at h
        | cons o0 os ih =>
          intro j o w h
          cases j with
          | zero => simp at h; subst h; exact w.1
          | succ j => exact ih (j := j) w.2.2 (by simpa using h)
      exact (this wf h1).al i h2
    refine ⟨by rw [hFc j F' a3, this.1], by rw [List.getElem?_map, a1, this.2]; rfl, ?_⟩
    rw [← hκ, List.getD_eq_getElem?_getD, List.getElem?_map, h1, wo]
    rfl
  -- an old address of a slot that is no argument stands
  have keepN : ∀ {i}, argAt i os = none → ∀ a ∈ Fs1 i, ¬ Zt Tc Fc a := fun {i} h a m ⟨j, _, z⟩ => by
    obtain ⟨o, v, d, F, h1, h2, h3, h4, h5, ma⟩ := hat j a z
    have k1 := h5.2
    cases ha : o.al with
    | some i' =>
      rw [ha] at k1
      obtain ⟨rfl, _⟩ := k1
      have := R1.dj i i' a m ma
      subst this
      rw [argAt_of nd h1 ha] at h
      cases h
    | none => rw [ha] at k1; exact (k1 a ma).2 i m
  have Rw : Rep G P2 H2 σ (wb os ds' ρ1) κ Fw := by
    refine ⟨by rw [wb_length]; exact R1.len, by rw [wb_length]; exact R1.lenk, fun i d hi hu => ?_, fun i hi => ?_, fun i l a m m' => ?_, fun i => ?_, fun i a m => ?_, R2.pt⟩
    · rw [wb_get i os ds' ρ1 nd ld] at hi
      cases hx : argAt i os with
      | none =>
        rw [hx] at hi
        obtain ⟨v, a1, a2⟩ := R1.at_ i d hi hu
        exact ⟨v, a1, by rw [wN hx]; exact a2.ext E2 (keepN hx)⟩
      | some j =>
        rw [hx] at hi
        simp only at hi
        split at hi
        · obtain ⟨v, a1, a2⟩ := R2.at_ j d hi hu
          obtain ⟨s1, s2, s3⟩ := slot hx
          exact ⟨v, by rw [← s2]; exact a1, by rw [wS hx, ← s3]; exact a2⟩
        · cases hi
    · cases hx : argAt i os with
      | none => rw [wN hx]; exact R1.un i fun d hd => hi d (by rw [wb_get i os ds' ρ1 nd ld, hx]; exact hd)
      | some j =>
        rw [wS hx]
        refine R2.un j fun d hd => hi d ?_
        rw [wb_get i os ds' ρ1 nd ld, hx]
        obtain ⟨s1, s2, s3⟩ := slot hx
        have hlt : i < ρ1.length := by
          rw [← R1.len]
          obtain ⟨o, h1, h2, _⟩ := argAt_some hx
          obtain ⟨v, d, F', a1, a2, a3, a4⟩ := qd.getO h1
          rw [List.getElem?_map, a1] at s2
          obtain ⟨h, _⟩ := List.getElem?_eq_some_iff.mp s2.symm
          exact h
        simp only
        rw [if_pos hlt]
        exact hd
    · cases hx : argAt i os with
      | none =>
        rw [wN hx] at m
        cases hy : argAt l os with
        | none => rw [wN hy] at m'; exact R1.dj i l a m m'
        | some j' =>
          rw [wS hy] at m'
          rcases gr2 j' a m' with z | z
          · rw [(slot hy).1] at z; exact R1.dj i l a m z
          · obtain ⟨u, e5, _⟩ := R1.isM m; rw [z] at e5; cases e5
      | some j =>
        rw [wS hx] at m
        cases hy : argAt l os with
        | none =>
          rw [wN hy] at m'
          rcases gr2 j a m with z | z
          · rw [(slot hx).1] at z; exact R1.dj i l a z m'
          · obtain ⟨u, e5, _⟩ := R1.isM m'; rw [z] at e5; cases e5
        | some j' =>
          rw [wS hy] at m'
          have := R2.dj j j' a m m'
          subst this
          obtain ⟨o, h1, h2, _⟩ := argAt_some hx
          obtain ⟨o', h1', h2', _⟩ := argAt_some hy
          rw [h1] at h1'
          cases h1'
          rw [h2] at h2'
          exact Option.some.inj h2'
    · cases hx : argAt i os with
      | none => rw [wN hx]; exact R1.nd i
      | some j => rw [wS hx]; exact R2.nd j
    · cases hx : argAt i os with
      | none =>
        rw [wN hx] at m
        intro p
        rcases E2.newP a p with z | z | z
        · exact R1.np i a m z
        · obtain ⟨u, e5, _⟩ := R1.isM m; rw [z] at e5; cases e5
        · exact keepN hx a m z
      | some j => rw [wS hx] at m; exact R2.np j a m
  have new : ∀ a, a ∈ F → H a = none := fun a m => back_none E (fr2 a m).2.1
  have Zc : ∀ c, Zt Tc Fc c → Zt (Ts os ++ alS os) Fs c ∨ H c = none := fun c ⟨j, _, m⟩ => by
    obtain ⟨o, v, d, F, h1, h2, h3, h4, h5, ma⟩ := hat j c m
    have k1 := h5.2
    cases ha : o.al with
    | some i =>
      rw [ha] at k1
      obtain ⟨rfl, _⟩ := k1
      have hi := (argAt_some (argAt_of nd h1 ha)).choose_spec.2.2
      exact (gr i c ma).imp (fun z => ⟨i, List.mem_append_right _ hi, z⟩) id
    | none => exact .inr (fr c (temps_at h1 ha h4 c ma))
  refine q v H2 P2 F Fw Rw ow nf (fun a m => ⟨(fr2 a m).1, new a m, fun i z => ?_⟩) ((E.more Zt.left (R.zm _) (R.zp _)).trans E2 Zc) (fun i hi => ?_) fun i a m => ?_
  · cases hx : argAt i os with
    | none => rw [wN hx] at z; obtain ⟨u, e5, _⟩ := R1.isM z; rw [(fr2 a m).2.1] at e5; cases e5
    | some j => rw [wS hx] at z; exact (fr2 a m).2.2 j z
  · rw [List.mem_append, not_or] at hi
    have hx : argAt i os = none := by
      cases e : argAt i os with
      | none => rfl
      | some j => exact absurd (argAt_some e).choose_spec.2.2 hi.2
    obtain ⟨a1, a2⟩ := st i hi.1
    exact ⟨(wN hx).trans a1, by rw [wb_get i os ds' ρ1 nd ld, hx]; exact a2⟩
  · cases hx : argAt i os with
    | none => rw [wN hx] at m; exact gr i a m
    | some j =>
      rw [wS hx] at m
      rcases gr2 j a m with z | z
      · rw [(slot hx).1] at z; exact gr i a z
      · exact .inr (back_none E z)
variable {f : Addr} {fd : FuncData} {ps : List Str} {x : Str} {p pos : Pos} {e : Expr} {es : List Expr}
theorem ve_call {lv : Nat} {os : List Od} {Tc κp : List Nat} {fn : Sem0} (F : FnOk X.prog X.w X.K X.mg X.base CX0 lv f fd ps (spD (gd X) Tc κp k fn)) (hr : Room lv X.A) (hg : Gl X x) (hm : X.mg x = some (.ref f)) (hk : PySem.W.keepIn X.K (.ref f) = true) (hb : Binds X.K fd ps [])
    (ha : VA X κ (e :: es) os) (hκ : os.map (·.k) = κp) (nd : (alS os).Nodup) (hdb : (x == ("__debug__" : Str)) = false := by decide) (he : starEach (e :: es) X.env = (false, eval e X.env) :: starEach es X.env := by rfl) (hpl : (backTo pos (starEach es X.env)).any (·.1) = false := by rfl) :
    PE X (.Call (.Name x p) (e :: es) [] pos) (tV (gd X) (Ts os ++ alS os) κ k (callF os fn)) :=
  (pe_call F hr hg hm hk hb .nil pass0 ha.pa hdb he hpl).imp fun σ H Q h => by
    have := call_at (Tc := Tc) ha.wf hκ nd h
    show (argsT (gd X) κ os) σ H fun vs H1 => spD (gd X) Tc κp k fn (vs ++ []) H1 Q _
    simp only [List.append_nil]
    exact this
end
end VS

set_option Elab.async false
set_option linter.all false
set_option maxRecDepth 100000
/-! List comprehensions over data. -/
namespace VS
open PySem PySem.Spec PyProof.Rows L2

def wipeD : List Nat → List D → List D
  | [], ρ => ρ
  | v :: vs, ρ => (wipeD vs ρ).set v .und
/-- the slots vs as they were in ρ0 -/
def unw : List Nat → List D → List D → List D
  | [], _, ρ => ρ
  | v :: vs, ρ0, ρ => (unw vs ρ0 ρ).set v (ρ0.getD v .und)
abbrev Cls := List D → Option (List D × List D)
def clL (vs : List Nat) (m : Tgt) (t : Tst) (b : Cls) : List D → Cls
  | [], ρ => some ([], ρ)
  | x :: xs, ρ => (m x ρ).bind fun ρ1 => (t ρ1).bind fun p => if p.1 = true then (b p.2).bind fun q => (clL vs m t b xs (wipeD vs q.2)).bind fun r => some (q.1 ++ r.1, r.2)
    else clL vs m t b xs (wipeD vs p.2)
def clF (src : Cls) (vs : List Nat) (m : Tgt) (t : Tst) (b : Cls) : Cls := fun ρ => (src ρ).bind fun p => (clL vs m t b p.1 (wipeD vs p.2)).bind fun r => some (r.1, unw vs p.2 r.2)
def oneF (e : Sem0) : Cls := fun ρ => (e ρ).bind fun p => some ([p.1], p.2)
def lcF (c : Cls) : Sem0 := fun ρ => (c ρ).bind fun p => if p.1.length ≤ sizeLine then some (.lst p.1, p.2) else none
def yesF : Tst := fun ρ => some (true, ρ)
section
variable {G : Wd} {P P' P1 : Addr → Prop} {H H' H1 : Hp} {σ : L2.St} {ρ ρ' ρ0 : List D} {κ T U : List Nat} {Fs Fs' Fs1 : Nat → List Addr} {k : Nat} {vs : List Nat}
theorem wipeD_length : ∀ (vs : List Nat) (ρ : List D), (wipeD vs ρ).length = ρ.length
  | [], _ => rfl
  | v :: vs, ρ => by unfold wipeD; rw [List.length_set, wipeD_length vs]
theorem unw_length : ∀ (vs : List Nat) (ρ0 ρ : List D), (unw vs ρ0 ρ).length = ρ.length
  | [], _, _ => rfl
  | v :: vs, ρ0, ρ => by unfold unw; rw [List.length_set, unw_length vs]
theorem wipeD_out {i : Nat} : ∀ {vs : List Nat} {ρ : List D}, i ∉ vs → (wipeD vs ρ)[i]? = ρ[i]?
  | [], _, _ => rfl
  | v :: vs, ρ, h => by
    simp only [List.mem_cons, not_or] at h
    unfold wipeD
    rw [List.getElem?_set_ne (Ne.symm h.1), wipeD_out h.2]
theorem wipeD_in {i : Nat} : ∀ {vs : List Nat} {ρ : List D} {d : D}, i ∈ vs → (wipeD vs ρ)[i]? = some d → d = .und
  | v :: vs, ρ, d, h, e => by
    unfold wipeD at e
    by_cases q : v = i
    · subst q
      by_cases c : v < (wipeD vs ρ).length
      · rw [List.getElem?_set_self c] at e; cases e; rfl
      · rw [List.getElem?_eq_none (by simpa using c)] at e; cases e
    · rw [List.getElem?_set_ne q] at e
      rcases List.mem_cons.mp h with z | z
      · exact absurd z.symm q
      · exact wipeD_in z e
theorem unw_out {i : Nat} : ∀ {vs : List Nat} {ρ0 ρ : List D}, i ∉ vs → (unw vs ρ0 ρ)[i]? = ρ[i]?
  | [], _, _, _ => rfl
  | v :: vs, ρ0, ρ, h => by
    simp only [List.mem_cons, not_or] at h
    unfold unw
    rw [List.getElem?_set_ne (Ne.symm h.1), unw_out h.2]
theorem unw_in {i : Nat} : ∀ {vs : List Nat} {ρ0 ρ : List D} {d : D}, i ∈ vs → (unw vs ρ0 ρ)[i]? = some d → d = ρ0.getD i .und
  | v :: vs, ρ0, ρ, d, h, e => by
    unfold unw at e
    by_cases q : v = i
    · subst q
      by_cases c : v < (unw vs ρ0 ρ).length
      · rw [List.getElem?_set_self c] at e; cases e; rfl
      · rw [List.getElem?_eq_none (by simpa using c)] at e; cases e
    · rw [List.getElem?_set_ne q] at e
      rcases List.mem_cons.mp h with z | z
      · exact absurd z.symm q
      · exact unw_in z e
theorem wipe_out' {i : Nat} : ∀ {vs : List Nat} {σ : L2.St}, i ∉ vs → (wipe σ vs)[i]? = σ[i]?
  | [], _, _ => rfl
  | v :: vs, σ, h => by
    simp only [List.mem_cons, not_or] at h
    unfold wipe
    rw [List.getElem?_set_ne (Ne.symm h.1), wipe_out' h.2]
theorem wipe_in' {i : Nat} : ∀ {vs : List Nat} {σ : L2.St}, i ∈ vs → i < σ.length → (wipe σ vs)[i]? = some none
  | v :: vs, σ, h, hl => by
    unfold wipe
    by_cases q : v = i
    · subst q
      rw [List.getElem?_set_self (by rw [wipe_length]; exact hl)]
    · rw [List.getElem?_set_ne q]
      rcases List.mem_cons.mp h with z | z
      · exact absurd z.symm q
      · exact wipe_in' z hl
theorem wipe_eq {σ σ' : L2.St} (hl : σ'.length = σ.length) (h : ∀ i, i < σ.length → i ∉ vs → σ'[i]? = σ[i]?) : wipe σ' vs = wipe σ vs := by
  refine List.ext_getElem? fun i => ?_
  by_cases hi : i < σ.length
  · by_cases hv : i ∈ vs
    · rw [wipe_in' hv hi, wipe_in' hv (by omega)]
    · rw [wipe_out' hv, wipe_out' hv, h i hi hv]
  · rw [List.getElem?_eq_none (by rw [wipe_length]; omega), List.getElem?_eq_none (by rw [wipe_length]; omega)]
/-- a slot of kind 0 owns nothing -/
theorem Rep.zero (R : Rep G P H σ ρ κ Fs) {i : Nat} (h : κ.getD i 0 = 0) : Fs i = [] := by
  cases hm : Fs i with
  | nil => rfl
  | cons a r =>
    obtain ⟨d, v, h1, h2, h3, h4⟩ := R.some (i := i) (a := a) (by rw [hm]; exact List.mem_cons_self)
    rw [h] at h4
    rw [h4.2] at hm
    cases hm
theorem Rep.wipe (R : Rep G P H σ ρ κ Fs) (h : ∀ i, i ∈ vs → κ.getD i 0 = 0) : Rep G P H (wipe σ vs) (wipeD vs ρ) κ Fs := by
  refine ⟨by rw [wipe_length, wipeD_length]; exact R.len, by rw [wipeD_length]; exact R.lenk, fun i d hi hu => ?_, fun i hi => ?_, R.dj, R.nd, R.np, R.pt⟩
  · have hv : i ∉ vs := fun z => hu (wipeD_in z hi)
    rw [wipeD_out hv] at hi
    obtain ⟨v, a, b⟩ := R.at_ i d hi hu
    exact ⟨v, by rw [wipe_out' hv]; exact a, b⟩
  · by_cases hv : i ∈ vs
    · exact R.zero (h i hv)
    · exact R.un i fun d hd => hi d (by rw [wipeD_out hv]; exact hd)
/-- the comprehension's own slots back -/
theorem Rep.unwipe (R0 : Rep G P H σ ρ0 κ Fs) (R : Rep G P' H' (L2.wipe σ vs) ρ' κ Fs') (L : Late G P H P' H') (h : ∀ i, i ∈ vs → κ.getD i 0 = 0) : Rep G P' H' σ (unw vs ρ0 ρ') κ Fs' := by
  refine ⟨?_, by rw [unw_length]; exact R.lenk, fun i d hi hu => ?_, fun i hi => ?_, R.dj, R.nd, R.np, R.pt⟩
  · rw [unw_length, ← R.len, wipe_length]
  · by_cases hv : i ∈ vs
    · have e := unw_in hv hi
      cases hr : ρ0[i]? with
      | none =>
        rw [List.getD_eq_getElem?_getD, hr] at e
        exact absurd e hu
      | some d' =>
        rw [List.getD_eq_getElem?_getD, hr] at e
        subst e
        obtain ⟨v, a, b⟩ := R0.at_ i _ hr hu
        rw [h i hv] at b ⊢
        exact ⟨v, a, L _ _ b.1, R.zero (h i hv)⟩
    · rw [unw_out hv] at hi
      obtain ⟨v, a, b⟩ := R.at_ i d hi hu
      exact ⟨v, by rw [← wipe_out' hv (σ := σ)]; exact a, b⟩
  · by_cases hv : i ∈ vs
    · exact R.zero (h i hv)
    · exact R.un i fun d hd => hi d (by rw [unw_out hv]; exact hd)
/-- one more at the end of an owned list -/
theorem own_push {a : Addr} {ds : List D} {F Fy : List Addr} {y : V} {d : D} (o : OwnK G P H (k + 1) (.ref a) (.lst ds) F) (nd : F.Nodup) (np : ¬ P a) (oy : OwnK G P H k y d Fy) (ny : Fy.Nodup) (dj : ∀ c, c ∈ F → c ∉ Fy) :
    ∃ acc F', H a = some (.lst acc) ∧ acc.length = ds.length ∧ OwnK G P (upd H a (.lst (acc ++ [y]))) (k + 1) (.ref a) (.lst (ds ++ [d])) F' ∧ F'.Nodup ∧ (∀ c, c ∈ F' → c ∈ F ∨ c ∈ Fy) ∧ a ∈ F ∧ Ext (fun c => c = a) P H P (upd H a (.lst (acc ++ [y]))) := by
  obtain ⟨b, acc, Gs, e, hb, t, rfl⟩ := o
  cases e
  have E : Ext (fun c => c = a) P H P (upd H a (.lst (acc ++ [y]))) := by
    refine ⟨fun _ h => h, fun _ h => .inl h, fun c o h n => by rw [upd_ne n]; exact h, fun c h => ?_, fun c z => ?_, fun c z => ?_, fun pt c p => ?_⟩
    · by_cases q : c = a
      · rw [q, upd_same]; simp
      · rw [upd_ne q]; exact h
    · subst z; exact ⟨_, hb, trivial⟩
    · subst z; exact np
    · have : c ≠ a := fun z => np (z ▸ p)
      rw [upd_ne this]; exact pt c p
  obtain ⟨n1, n2⟩ := List.nodup_cons.mp nd
  have t2 : Tri (OwnK G P (upd H a (.lst (acc ++ [y]))) k) acc ds Gs := t.imp fun v d F m r => r.ext E fun c mc z => by subst z; exact n1 (mem_flat m mc)
  have y2 : OwnK G P (upd H a (.lst (acc ++ [y]))) k y d Fy := oy.ext E fun c mc z => by subst z; exact dj c List.mem_cons_self mc
  refine ⟨acc, a :: (Gs ++ [Fy]).flatten, hb, t.length.1, ⟨a, acc ++ [y], Gs ++ [Fy], rfl, upd_same, t2.append (.cons y2 .nil), rfl⟩, ?_, ?_, List.mem_cons_self, E⟩
  · rw [List.flatten_append, List.flatten_cons, List.flatten_nil, List.append_nil]
    refine List.nodup_cons.mpr ⟨?_, List.nodup_append.mpr ⟨n2, ny, fun x mx z mz e => ?_⟩⟩
    · rw [List.mem_append, not_or]
      exact ⟨n1, dj a List.mem_cons_self⟩
    · subst e; exact dj x (List.mem_cons_of_mem _ mx) mz
  · intro c m
    rw [List.flatten_append, List.flatten_cons, List.flatten_nil, List.append_nil] at m
    rcases List.mem_cons.mp m with m | m
    · exact .inl (m ▸ List.mem_cons_self)
    · rcases List.mem_append.mp m with m | m
      · exact .inl (List.mem_cons_of_mem _ m)
      · exact .inr m
/-- a step of the slots W, with the owned things F that no slot holds -/
structure StpF (W : List Nat) (F : List Addr) (P : Addr → Prop) (H : Hp) (Fs : Nat → List Addr) (ρ : List D) (P' : Addr → Prop) (H' : Hp) (Fs' : Nat → List Addr) (ρ' : List D) : Prop where
  ext : Ext (fun c => Zt W Fs c ∨ c ∈ F) P H P' H'
  st : ∀ i, i ∉ W → Fs' i = Fs i ∧ ρ'[i]? = ρ[i]?
  gr : ∀ i a, a ∈ Fs' i → a ∈ Fs i ∨ H a = none
theorem StpF.trans {W : List Nat} {F F1 : List Addr} {ρ1 : List D} (a : StpF W F P H Fs ρ P1 H1 Fs1 ρ1) (b : StpF W F1 P1 H1 Fs1 ρ1 P' H' Fs' ρ') (h : ∀ c, c ∈ F1 → c ∈ F ∨ H c = none) : StpF W F P H Fs ρ P' H' Fs' ρ' :=
  ⟨a.ext.trans b.ext fun c z => by
    rcases z with ⟨i, hi, m⟩ | z
    · rcases a.gr i c m with m | m
      · exact .inl (.inl ⟨i, hi, m⟩)
      · exact .inr m
    · rcases h c z with z | z
      · exact .inl (.inr z)
      · exact .inr z, fun i hi => ⟨(b.st i hi).1.trans (a.st i hi).1, (b.st i hi).2.trans (a.st i hi).2⟩, fun i c m => by
    rcases b.gr i c m with m | m
    · exact a.gr i c m
    · exact .inr (back_none a.ext m)⟩
theorem StpF.of {W : List Nat} {F : List Addr} (R : Rep G P H σ ρ κ Fs) (hF : ∀ a ∈ F, (∃ u, H a = some u ∧ IsM u) ∧ ¬ P a) (h : ∀ i, i ∈ T → i ∈ W) (a : Stp T P H Fs ρ P' H' Fs' ρ') : StpF W F P H Fs ρ P' H' Fs' ρ' :=
  ⟨a.ext.more (fun _ ⟨i, hi, m⟩ => .inl ⟨i, h i hi, m⟩) (fun c z => z.elim (R.zm _ c) fun z => (hF c z).1) (fun c z => z.elim (R.zp _ c) fun z => (hF c z).2), fun i hi => a.st i fun z => hi (h i z), a.gr⟩
theorem StpF.mono {W W' : List Nat} {F F' : List Addr} (R : Rep G P H σ ρ κ Fs) (hF : ∀ a ∈ F', (∃ u, H a = some u ∧ IsM u) ∧ ¬ P a) (h : ∀ i, i ∈ W → i ∈ W') (hf : ∀ c, c ∈ F → c ∈ F') (a : StpF W F P H Fs ρ P' H' Fs' ρ') : StpF W' F' P H Fs ρ P' H' Fs' ρ' :=
  ⟨a.ext.more (fun c z => z.elim (fun ⟨i, hi, m⟩ => .inl ⟨i, h i hi, m⟩) fun z => .inr (hf c z)) (fun c z => z.elim (R.zm _ c) fun z => (hF c z).1) (fun c z => z.elim (R.zp _ c) fun z => (hF c z).2), fun i hi => a.st i fun z => hi (h i z), a.gr⟩
theorem StpF.refl {W : List Nat} {F : List Addr} (R : Rep G P H σ ρ κ Fs) (hF : ∀ a ∈ F, (∃ u, H a = some u ∧ IsM u) ∧ ¬ P a) : StpF W F P H Fs ρ P H Fs ρ :=
  ⟨Ext.refl (fun c z => z.elim (R.zm _ c) fun z => (hF c z).1) (fun c z => z.elim (R.zp _ c) fun z => (hF c z).2), fun _ _ => ⟨rfl, rfl⟩, fun _ _ m => .inl m⟩
/-- what a clause's turn makes of the list at l -/
def BodyOk (G : Wd) (κ W : List Nat) (k : Nat) (tb : Addr → L2.St → Hp → (Hp → Prop) → Prop) (b : Cls) : Prop :=
  ∀ (l : Addr) (σ : L2.St) (P : Addr → Prop) (H : Hp) (ρ ρ' : List D) (Fs : Nat → List Addr) (ds rs : List D) (F : List Addr) (Nx : Hp → Prop), Rep G P H σ ρ κ Fs → OwnK G P H (k + 1) (.ref l) (.lst ds) F → F.Nodup → (∀ a ∈ F, ¬ P a ∧ ∀ i, a ∉ Fs i) →
    b ρ = some (rs, ρ') → ds.length + rs.length ≤ sizeLine →
    (∀ H' P' Fs' F', Rep G P' H' σ ρ' κ Fs' → OwnK G P' H' (k + 1) (.ref l) (.lst (ds ++ rs)) F' → F'.Nodup → (∀ a ∈ F', ¬ P' a ∧ ∀ i, a ∉ Fs' i) → (∀ a ∈ F', a ∈ F ∨ H a = none) → StpF W F P H Fs ρ P' H' Fs' ρ' → Nx H') → tb l σ H Nx
/-- an element -/
theorem one_ok {W : List Nat} {e : Sem0} (h : ∀ i, i ∈ T → i ∈ W) : BodyOk G κ W k (fun l σ H Nx => tV G T κ k e σ H fun y H4 => ∃ acc, H4 l = some (.lst acc) ∧ acc.length < sizeLine ∧ Nx (upd H4 l (.lst (acc ++ [y])))) (oneF e) := by
  intro l σ P H ρ ρ' Fs ds rs F Nx R o nd fr e1 hz q
  unfold oneF at e1
  obtain ⟨⟨d, ρ1⟩, e2, e1⟩ := Option.bind_eq_some_iff.mp e1
  cases e1
  refine ⟨P, ρ, Fs, d, _, R, e2, fun y H4 P4 Fy Fs4 R4 oy ny fy E st gr => ?_⟩
  have s : Stp T P H Fs ρ P4 H4 Fs4 ρ1 := ⟨E, st, gr⟩
  obtain ⟨o4, f4⟩ := fresh_step R o fr s
  have hlF : l ∈ F := by
    obtain ⟨_, _, _, e, _, _, rfl⟩ := o4
    cases e
    exact List.mem_cons_self
  have djF : ∀ c, c ∈ F → c ∉ Fy := fun c m z => by
    obtain ⟨u, e5, _⟩ := o.isM c m
    rw [(fy c z).2.1] at e5; cases e5
  obtain ⟨acc, F', a1, a2, a3, a4, a5, a6, a7⟩ := own_push o4 nd (f4 l hlF).1 oy ny djF
  refine ⟨acc, a1, ?_, ?_⟩
  · rw [a2]
    simp only [List.length_cons, List.length_nil] at hz
    omega
  · have R5 := R4.ext a7 fun i a m z => by subst z; exact (f4 a hlF).2 i m
    refine q _ P4 Fs4 F' R5 a3 a4 (fun a m => ?_) (fun a m => ?_) ?_
    · rcases a5 a m with z | z
      · exact f4 a z
      · exact ⟨(fy a z).1, (fy a z).2.2⟩
    · rcases a5 a m with z | z
      · exact .inl z
      · exact .inr (fy a z).2.1
    · have s1 : StpF W F P H Fs ρ P4 H4 Fs4 ρ1 := StpF.of R (fun a m => ⟨o.isM a m, (fr a m).1⟩) h s
      refine s1.trans (F1 := F) ⟨a7.more (fun c z => .inr (by subst z; exact hlF)) (fun c z => z.elim (R4.zm _ c) fun z => o4.isM c z) (fun c z => z.elim (R4.zp _ c) fun z => (f4 c z).1), fun _ _ => ⟨rfl, rfl⟩, fun _ _ m => .inl m⟩ fun c z => .inl z
/-- the turns of a clause -/
theorem turns_ok {W : List Nat} {vs : List Nat} {J : It} {xs : List D} {m : Tgt} {t : Tst} {b : Cls} {tb : Addr → L2.St → Hp → (Hp → Prop) → Prop} {Φ : List Nat} (hv : ∀ i, i ∈ vs → κ.getD i 0 = 0) (hΦ : ∀ i, i < κ.length → i ∈ vs ∨ i ∈ Φ) (hT : ∀ i, i ∈ T → i ∈ W) (hvW : ∀ i, i ∈ vs → i ∉ W)
    (B : BodyOk G κ W k tb b) {l : Addr} {σ : L2.St} {ds rs : List D} {F : List Addr} {ρ1 ρF : List D} {Fin : Hp → Prop}
    (Wk : WalkD G J xs P1 H1) (R : Rep G P1 H1 σ ρ1 κ Fs1) (o : OwnK G P1 H1 (k + 1) (.ref l) (.lst ds) F) (nd : F.Nodup) (fr : ∀ a ∈ F, ¬ P1 a ∧ ∀ i, a ∉ Fs1 i) (e : clL vs m t b xs (wipeD vs ρ1) = some (rs, ρF)) (hz : ds.length + rs.length ≤ sizeLine)
    (q : ∀ H' P' Fs' F', Rep G P' H' σ (unw vs ρ1 ρF) κ Fs' → OwnK G P' H' (k + 1) (.ref l) (.lst (ds ++ rs)) F' → F'.Nodup → (∀ a ∈ F', ¬ P' a ∧ ∀ i, a ∉ Fs' i) → (∀ a ∈ F', a ∈ F ∨ H1 a = none) → StpF W F P1 H1 Fs1 ρ1 P' H' Fs' (unw vs ρ1 ρF) → Fin H') :
    ∃ Wv : Nat → Nat → Hp → Prop, (∃ m, Wv 0 m H1) ∧ ∀ i n H, Wv i n H →
      (J.stop i H ∧ Fin H) ∨ (J.go i H ∧ ∃ Nx : Hp → Prop, (∀ H', Nx H' → ∃ n', n' < n ∧ Wv (i + 1) n' H') ∧ ∀ x H', J.yld i H x H' → tG G Φ κ κ m x (L2.wipe σ vs) H' fun σ2 H2 => L2.wipe σ2 vs = L2.wipe σ vs ∧ tVT G T κ t σ2 H2 fun b H3 =>
        if b = true then tb l σ2 H3 Nx else Nx H3) := by
  let Inv : List D → Hp → Prop := fun ys H => ∃ P ρ Fs ds' rs' F', Rep G P H (L2.wipe σ vs) ρ κ Fs ∧ (∀ i, i ∈ vs → ∀ d, ρ[i]? = some d → d = .und) ∧ OwnK G P H (k + 1) (.ref l) (.lst ds') F' ∧ F'.Nodup ∧ (∀ a ∈ F', ¬ P a ∧ ∀ i, a ∉ Fs i) ∧ (∀ a ∈ F', a ∈ F ∨ H1 a = none) ∧
    StpF W F P1 H1 Fs1 (wipeD vs ρ1) P H Fs ρ ∧ clL vs m t b ys ρ = some (rs', ρF) ∧ ds' ++ rs' = ds ++ rs
  have Rw := R.wipe hv
  refine ⟨fun i n H => i + n = xs.length ∧ Inv (xs.drop i) H, ⟨xs.length, Nat.zero_add _, P1, _, Fs1, ds, rs, F, Rw, fun i hi d h => wipeD_in hi h, o, nd, fr, fun a m => .inl m, StpF.refl Rw (fun a m => ⟨o.isM a m, (fr a m).1⟩), e, rfl⟩, ?_⟩
  rintro i n H ⟨hl, P2, ρ2, Fs2, ds2, rs2, F2, R2, u2, o2, nd2, fr2, f2, s2, e2, ed⟩
  have L2' : Late G P1 H1 P2 H := s2.ext.late
  cases hd : xs.drop i with
  | nil =>
    have hi : i = xs.length := by
      have := List.drop_eq_nil_iff.mp hd
      omega
    subst hi
    rw [hd] at e2
    cases e2
    rw [List.append_nil] at ed
    refine .inl ⟨Wk.stop P2 H L2', q H P2 Fs2 F2 (R.unwipe R2 L2' hv) (ed ▸ o2) nd2 fr2 f2 ⟨s2.ext, fun i hi => ⟨(s2.st i hi).1, ?_⟩, s2.gr⟩⟩
    by_cases z : i ∈ vs
    · have hlen : (unw vs ρ1 ρF).length = ρ1.length := by
        rw [unw_length, ← R2.lenk, R.lenk]
      cases hx : (unw vs ρ1 ρF)[i]? with
      | none => rw [List.getElem?_eq_none_iff, hlen] at hx; rw [List.getElem?_eq_none hx]
      | some d =>
        have := unw_in z hx
        obtain ⟨h, _⟩ := List.getElem?_eq_some_iff.mp hx
        rw [this, List.getD_eq_getElem?_getD, List.getElem?_eq_getElem (by omega)]
        rfl
    · rw [unw_out z, (s2.st i hi).2, wipeD_out z]
  | cons x ys =>
    have hi : i < xs.length := by
      have := congrArg List.length hd
      rw [List.length_drop, List.length_cons] at this
      omega
    have hx : xs[i]? = some x := by
      have := congrArg List.head? hd
      rw [List.head?_drop] at this
      exact this
    have hys : xs.drop (i + 1) = ys := by
      rw [← List.drop_drop, hd]
      rfl
    rw [hd] at e2
    unfold clL at e2
    obtain ⟨ρ3, e3, e2⟩ := Option.bind_eq_some_iff.mp e2
    obtain ⟨⟨c, ρ4⟩, e4, e2⟩ := Option.bind_eq_some_iff.mp e2
    refine .inr ⟨Wk.go P2 H i L2' hi, Inv ys, fun H' z => ⟨n - 1, by omega, by omega, by rw [hys]; exact z⟩, fun v H' hy => ?_⟩
    obtain ⟨kp, dn⟩ := Wk.yld P2 H i v H' x L2' hx hy
    have E2 : Ext (fun _ => False) P2 H P2 H' := Ext.new kp
    have R3 := R2.ext E2 fun _ _ _ z => z
    have s3 : StpF W F P1 H1 Fs1 (wipeD vs ρ1) P2 H' Fs2 ρ2 := ⟨s2.ext.trans E2 fun _ z => z.elim, s2.st, s2.gr⟩
    have o3 := o2.ext E2 fun _ _ z => z
    refine ⟨P2, ρ2, Fs2, x, ρ3, R3, dn, e3, fun σ2 Fs3 R4 sm sub => ?_⟩
    have hw : L2.wipe σ2 vs = L2.wipe σ vs := by
      have l1 : σ2.length = (L2.wipe σ vs).length := by rw [R4.len, ← R4.lenk, R2.len, ← R2.lenk]
      have : L2.wipe σ2 vs = L2.wipe (L2.wipe σ vs) vs := wipe_eq l1 fun j hj hnv => by
        have hjk : j < κ.length := by rw [R2.len, ← R2.lenk] at hj; exact hj
        exact (sm j ((hΦ j hjk).resolve_left hnv)).1
      rw [this]
      exact wipe_eq (wipe_length _ _) fun j hj hnv => wipe_out' hnv
    refine ⟨hw, P2, ρ3, Fs3, c, ρ4, R4, e4, fun H5 P5 Fs5 R5 Ex st gr => ?_⟩
    have t5 : Stp T P2 H' Fs3 ρ3 P5 H5 Fs5 ρ4 := ⟨Ex, st, gr⟩
    -- from the turn's start: what the target has changed are own slots
    have sA : StpF W F2 P2 H' Fs3 ρ3 P5 H5 Fs5 ρ4 := StpF.of R4 (fun a m => ⟨o3.isM a m, (fr2 a m).1⟩) hT t5
    have fr3 : ∀ a ∈ F2, ¬ P2 a ∧ ∀ i, a ∉ Fs3 i := fun a m => ⟨(fr2 a m).1, fun i z => (fr2 a m).2 i (sub i a z)⟩
    obtain ⟨o5, fr5⟩ := fresh_step R4 o3 fr3 t5
    -- the slots behind the turn, the own ones forgotten
    have close : ∀ {P6 H6 ρ6 Fs6 F6 ds6 rs6}, Rep G P6 H6 σ2 ρ6 κ Fs6 → OwnK G P6 H6 (k + 1) (.ref l) (.lst ds6) F6 → F6.Nodup → (∀ a ∈ F6, ¬ P6 a ∧ ∀ i, a ∉ Fs6 i) → (∀ a ∈ F6, a ∈ F2 ∨ H' a = none) → StpF W F2 P2 H' Fs3 ρ3 P6 H6 Fs6 ρ6 → clL vs m t b ys (wipeD vs ρ6) = some (rs6, ρF) → ds6 ++ rs6 = ds ++ rs → Inv ys H6 := by
      intro P6 H6 ρ6 Fs6 F6 ds6 rs6 R6 o6 nd6 fr6 f6 s6 e6 ed6
      have R7 := R6.wipe hv
      rw [hw] at R7
      have gr6 : ∀ i a, a ∈ Fs6 i → a ∈ Fs2 i ∨ H' a = none := fun i a m => (s6.gr i a m).imp (sub i a) id
      refine ⟨P6, _, Fs6, ds6, rs6, F6, R7, fun i hi d h => wipeD_in hi h, o6, nd6, fr6, fun a m => ?_, ⟨s3.ext.trans s6.ext fun c z => ?_, fun i hi => ?_, fun i a m => ?_⟩, e6, ed6⟩
      · rcases f6 a m with z | z
        · exact f2 a z
        · exact .inr (back_none s3.ext z)
      · rcases z with ⟨i, hi, mm⟩ | z
        · rcases s3.gr i c (sub i c mm) with y | y
          · exact .inl (.inl ⟨i, hi, y⟩)
          · exact .inr y
        · rcases f2 c z with y | y
          · exact .inl (.inr y)
          · exact .inr y
      · by_cases hiv : i ∈ vs
        · refine ⟨(R6.zero (hv i hiv)).trans (Rw.zero (hv i hiv)).symm, ?_⟩
          have l6 : (wipeD vs ρ6).length = (wipeD vs ρ1).length := by rw [wipeD_length, wipeD_length, ← R6.lenk, R.lenk]
          cases hx6 : (wipeD vs ρ6)[i]? with
          | none => rw [List.getElem?_eq_none_iff, l6] at hx6; rw [List.getElem?_eq_none hx6]
          | some d =>
            rw [wipeD_in hiv hx6]
            obtain ⟨h, _⟩ := List.getElem?_eq_some_iff.mp hx6
            have h1 : i < (wipeD vs ρ1).length := by omega
            rw [List.getElem?_eq_getElem h1, wipeD_in hiv (List.getElem?_eq_getElem h1)]
        · obtain ⟨a1, a2⟩ := s6.st i hi
          obtain ⟨b1, b2⟩ := s3.st i hi
          by_cases h : i < κ.length
          · obtain ⟨_, _, c1, c2⟩ := sm i ((hΦ i h).resolve_left hiv)
            exact ⟨a1.trans (c2.trans b1), by rw [wipeD_out hiv, a2, c1, b2]⟩
          · have z6 := R6.lenk
            have z2 := Rw.lenk
            refine ⟨(R6.zero (by rw [List.getD_eq_getElem?_getD, List.getElem?_eq_none (by omega)]; rfl)).trans (Rw.zero (by rw [List.getD_eq_getElem?_getD, List.getElem?_eq_none (by omega)]; rfl)).symm, ?_⟩
            rw [List.getElem?_eq_none (by rw [wipeD_length]; omega), List.getElem?_eq_none (by omega)]
      · rcases gr6 i a m with z | z
        · exact s3.gr i a z
        · exact .inr (back_none s3.ext z)
    cases c with
    | false =>
      exact close R5 o5 nd2 fr5 (fun a m => .inl m) sA e2 ed
    | true =>
      obtain ⟨⟨rs5, ρ5⟩, e5, e2⟩ := Option.bind_eq_some_iff.mp (show (b ρ4).bind _ = _ from e2)
      obtain ⟨⟨rs6, ρ6⟩, e6, e2⟩ := Option.bind_eq_some_iff.mp e2
      injection e2 with e2
      injection e2 with e7 e8
      subst e8
      subst e7
      refine B l σ2 P5 H5 ρ4 ρ5 Fs5 ds2 rs5 F2 (Inv ys) R5 o5 nd2 fr5 e5 ?_ fun H6 P6 Fs6 F6 R6 o6 nd6 fr6 f6 s6 => ?_
      · have := congrArg List.length ed
        simp only [List.length_append] at this
        omega
      · refine close R6 o6 nd6 fr6 (fun a m => (f6 a m).imp id (back_none Ex)) (sA.trans s6 fun c m => .inl m) e6 (by rw [List.append_assoc]; exact ed)
/-- a further clause -/
theorem inner_ok {T0 T1 W : List Nat} {vs : List Nat} {src : Cls} {m : Tgt} {t : Tst} {b : Cls} {tb : Addr → L2.St → Hp → (Hp → Prop) → Prop} {Φ : List Nat} (hv : ∀ i, i ∈ vs → κ.getD i 0 = 0) (hΦ : ∀ i, i < κ.length → i ∈ vs ∨ i ∈ Φ) (h0 : ∀ i, i ∈ T0 → i ∈ W) (h1 : ∀ i, i ∈ T1 → i ∈ W) (hvW : ∀ i, i ∈ vs → i ∉ W)
    (B : BodyOk G κ W k tb b) : BodyOk G κ W k (fun l σ2 H3 Nx => tVI G T0 κ src σ2 H3 fun J1 H4 => ∃ W1 : Nat → Nat → Hp → Prop, (∃ m, W1 0 m H4) ∧ ∀ j k H, W1 j k H →
      (J1.stop j H ∧ Nx H) ∨ (J1.go j H ∧ ∃ Nx1 : Hp → Prop, (∀ H', Nx1 H' → ∃ k', k' < k ∧ W1 (j + 1) k' H') ∧ ∀ x H', J1.yld j H x H' → tG G Φ κ κ m x (L2.wipe σ2 vs) H' fun σ3 H5 => L2.wipe σ3 vs = L2.wipe σ2 vs ∧ tVT G T1 κ t σ3 H5 fun b H6 =>
        if b = true then tb l σ3 H6 Nx1 else Nx1 H6)) (clF src vs m t b) := by
  intro l σ P H ρ ρ' Fs ds rs F Nx R o nd fr e hz q
  unfold clF at e
  obtain ⟨⟨xs, ρ1⟩, e1, e⟩ := Option.bind_eq_some_iff.mp e
  obtain ⟨⟨rs1, ρF⟩, e2, e⟩ := Option.bind_eq_some_iff.mp e
  cases e
  refine ⟨P, ρ, Fs, xs, ρ1, R, e1, fun J H1 P1 Fs1 R1 Wk E st gr => ?_⟩
  have s1 : Stp T0 P H Fs ρ P1 H1 Fs1 ρ1 := ⟨E, st, gr⟩
  obtain ⟨o1, fr1⟩ := fresh_step R o fr s1
  have sA : StpF W F P H Fs ρ P1 H1 Fs1 ρ1 := StpF.of R (fun a m => ⟨o.isM a m, (fr a m).1⟩) h0 s1
  exact turns_ok hv hΦ h1 hvW B Wk R1 o1 nd fr1 e2 hz fun H' P' Fs' F' R' o' nd' fr' f' s' => q H' P' Fs' F' R' o' nd' fr' (fun a m => (f' a m).imp id (back_none E)) (sA.trans s' fun c z => .inl z)
/-- the whole -/
theorem lc_ok {T0 T1 W : List Nat} {vs : List Nat} {src : Cls} {m : Tgt} {t : Tst} {b : Cls} {tb : Addr → L2.St → Hp → (Hp → Prop) → Prop} {Φ : List Nat} (hv : ∀ i, i ∈ vs → κ.getD i 0 = 0) (hΦ : ∀ i, i < κ.length → i ∈ vs ∨ i ∈ Φ) (h0 : ∀ i, i ∈ T0 → i ∈ W) (h1 : ∀ i, i ∈ T1 → i ∈ W) (hvW : ∀ i, i ∈ vs → i ∉ W)
    (B : BodyOk G κ W k tb b) {σ : L2.St} {H : Hp} {Q : VK} (h : tV G W κ (k + 1) (lcF (clF src vs m t b)) σ H Q) :
    tVI G T0 κ src σ H fun J H1 => ∀ l, H1 l = none → ∃ W : Nat → Nat → Hp → Prop, (∃ m, W 0 m (upd H1 l (.lst []))) ∧ ∀ i n H, W i n H →
      (J.stop i H ∧ Q (.ref l) H) ∨ (J.go i H ∧ ∃ Nx : Hp → Prop, (∀ H', Nx H' → ∃ n', n' < n ∧ W (i + 1) n' H') ∧ ∀ x H', J.yld i H x H' → tG G Φ κ κ m x (L2.wipe σ vs) H' fun σ2 H2 => L2.wipe σ2 vs = L2.wipe σ vs ∧ tVT G T1 κ t σ2 H2 fun b H3 =>
        if b = true then tb l σ2 H3 Nx else Nx H3) := by
  obtain ⟨P, ρ, Fs, d, ρ', R, e, q⟩ := h
  unfold lcF clF at e
  obtain ⟨⟨rs, ρ2⟩, e0, e⟩ := Option.bind_eq_some_iff.mp e
  obtain ⟨⟨xs, ρ1⟩, e1, e0⟩ := Option.bind_eq_some_iff.mp e0
  obtain ⟨⟨rs1, ρF⟩, e2, e0⟩ := Option.bind_eq_some_iff.mp e0
  cases e0
  split at e
  case isFalse => cases e
  rename_i hz
  cases e
  refine ⟨P, ρ, Fs, xs, ρ1, R, e1, fun J H1 P1 Fs1 R1 Wk E st gr => fun l hl => ?_⟩
  have En : Ext (fun _ => False) P1 H1 P1 (upd H1 l (.lst [])) := Ext.new fun a o ha => by
    rw [upd_ne (ne_of_none ha hl)]
    exact ha
  obtain ⟨pl, fl⟩ := R1.fresh hl
  have o1 : OwnK G P1 (upd H1 l (.lst [])) (k + 1) (.ref l) (.lst []) [l] := ⟨l, [], [], rfl, upd_same, .nil, rfl⟩
  refine turns_ok (H1 := upd H1 l (.lst [])) (P1 := P1) (Fs1 := Fs1) (F := [l]) (ds := []) hv hΦ h1 hvW B ⟨fun P' H' i L hi => Wk.go P' H' i (En.late.trans L) hi, fun P' H' L => Wk.stop P' H' (En.late.trans L), fun P' H' i x H2 d L => Wk.yld P' H' i x H2 d (En.late.trans L)⟩ (R1.ext En fun _ _ _ z => z) o1 (by simp)
    (fun a m => by rw [List.mem_singleton] at m; subst m; exact ⟨pl, fl⟩) e2 (by simpa using hz) fun H' P' Fs' F' R' o' nd' fr' f' s' => ?_
  have s1 : Stp T0 P H Fs ρ P1 H1 Fs1 ρ1 := ⟨E, st, gr⟩
  have upn : ∀ c, upd H1 l (.lst []) c = none → H1 c = none := fun c z => by
    by_cases y : c = l
    · rw [y]; exact hl
    · rw [upd_ne y] at z; exact z
  have sB : Stp W P1 H1 Fs1 ρ1 P' H' Fs' (unw vs ρ1 ρF) := ⟨((Ext.more En (fun _ z => z.elim) (R1.zm W) (R1.zp W)).trans s'.ext fun c z => by
    rcases z with z | z
    · exact .inl z
    · rw [List.mem_singleton] at z; subst z; exact .inr hl), s'.st, fun i a m => (s'.gr i a m).imp id (upn a)⟩
  have sC := Stp.mono (U := W) R (by simp only [List.mem_append]; rintro i (h | h); exact h0 i h; exact h) (Stp.trans R s1 sB)
  exact q (.ref l) H' P' F' Fs' R' (by simpa using o') nd' (fun a m => ⟨(fr' a m).1, by
    rcases f' a m with z | z
    · rw [List.mem_singleton] at z; subst z; exact back_none E hl
    · exact back_none E (upn a z), (fr' a m).2⟩) sC.ext sC.st sC.gr
end
section
variable {X : Cx} {κ T0 T1 T2 T3 T4 W Φ Φ1 Φc Φd κb : List Nat} {k : Nat} {elt tg iter tg1 iter1 : Expr} {ifs ifs1 : List Expr} {scope : Scope} {own : List (Str × Nat)} {vs1 : List Nat} {pos spos py : Pos} {src src1 : Cls} {m m1 : Tgt} {t t1 : Tst} {e : Sem0}
theorem vts_nil : PTs X [] (tVT (gd X) [] κ yesF) := PTs.imp pts_nil fun σ H Q ⟨P, ρ, Fs, b, ρ', R, e, q⟩ => by
  cases e
  have s := Stp.refl [] R
  exact q H P Fs R s.ext s.st s.gr
theorem vts_one {c : Expr} (h : PT X c (tVT (gd X) T1 κ t)) : PTs X [c] (tVT (gd X) T1 κ t) := pts_one h
/-- the place in a comprehension -/
abbrev Cb (X : Cx) (scope : Scope) (s : Shared) (H : Hp) (C : Addr) (cl : List (Str × Addr)) (fp : List Addr) : Cx := X.blk s H scope (compEnvC scope cl C X.env) fp
theorem ve_lc (W : List Nat) (own : List (Str × Nat)) (hv : ∀ i, i ∈ own.map (·.2) → κ.getD i 0 = 0) (hΦ : ∀ i, i < κ.length → i ∈ own.map (·.2) ∨ i ∈ Φc) (h0 : ∀ i, i ∈ T0 → i ∈ W) (h1 : ∀ i, i ∈ T1 → i ∈ W) (h2 : ∀ i, i ∈ T2 → i ∈ W) (hvW : ∀ i, i ∈ own.map (·.2) → i ∉ W)
    (hc : X.calm = true) (hN : X.N.Nodup) (hi : PI X tg iter (tVI (gd X) T0 κ src)) (ok : BlkOk X.N X.env.scope scope own)
    (hg : ∀ s H C cl fp, PG (Cb X scope s H C cl fp) tg (tG (gd X) Φc κ κ m)) (ht : ∀ s H C cl fp, PTs (Cb X scope s H C cl fp) ifs (tVT (gd X) T1 κ t)) (he : ∀ s H C cl fp, PE (Cb X scope s H C cl fp) elt (tV (gd X) T2 κ k e)) (hs : ∀ x, foldedSetIterable iter X.env x = pure x := by intro _; rfl) :
    PE X (.ListComp elt [⟨tg, iter, ifs, 0⟩] scope pos) (tV (gd X) W κ (k + 1) (lcF (clF src (own.map (·.2)) m t (oneF e)))) :=
  (pe_lc hc hN hi ok hg ht he hs).imp fun σ H Q h => lc_ok hv hΦ h0 h1 hvW (one_ok h2) h
theorem vs_setLc {i j : Nat} {y : Str} (W : List Nat) (own : List (Str × Nat)) (hv : ∀ i, i ∈ own.map (·.2) → κ.getD i 0 = 0) (hΦ : ∀ i, i < κ.length → i ∈ own.map (·.2) ∨ i ∈ Φc) (h0 : ∀ i, i ∈ T0 → i ∈ W) (h1 : ∀ i, i ∈ T1 → i ∈ W) (h2 : ∀ i, i ∈ T2 → i ∈ W) (hvW : ∀ i, i ∈ own.map (·.2) → i ∉ W) (hi0 : i ∉ Φ) (hk : i < κ.length)
    (hc : X.calm = true) (hN : X.N.Nodup) (hy : X.N[i]? = some y) (hyl : X.env.scope.names.lookup y = some .local) (hsw : swapsWith (.ListComp elt [⟨tg, iter, ifs, 0⟩] scope pos) (some (.Name y py)) spos.line X.env = pure true) (hi : PI X tg iter (tVI (gd X) T0 κ src)) (ok : BlkOk X.N X.env.scope scope own)
    (hg : ∀ s H C cl fp, PG (Cb X scope s H C cl fp) tg (tG (gd X) Φc κ κ m)) (ht : ∀ s H C cl fp, PTs (Cb X scope s H C cl fp) ifs (tVT (gd X) T1 κ t)) (he : ∀ s H C cl fp, PE (Cb X scope s H C cl fp) elt (tV (gd X) T2 κ k e)) (hs : ∀ x, foldedSetIterable iter X.env x = pure x := by intro _; rfl) :
    PS X (.Assign [.Name y py] (.ListComp elt [⟨tg, iter, ifs, 0⟩] scope pos) spos) (tS (gd X) Φ κ (κ.set i (k + 1)) κb j (setS i (lcF (clF src (own.map (·.2)) m t (oneF e))))) :=
  PS.imp (ps_setLc hc hN hy hyl hsw hi ok hg ht he hs) fun E σ H ⟨M, P, ρ, Fs, o, hM, R, A, e, q⟩ => lc_ok hv hΦ h0 h1 hvW (one_ok h2) (set_at hM hi0 hk R A e q)
theorem ve_lc2 (W : List Nat) (own : List (Str × Nat)) (vs1 : List Nat) (hv : ∀ i, i ∈ own.map (·.2) → κ.getD i 0 = 0) (hΦ : ∀ i, i < κ.length → i ∈ own.map (·.2) ∨ i ∈ Φc) (hΦd : ∀ i, i < κ.length → i ∈ vs1 ∨ i ∈ Φd) (hvs : ∀ i, i ∈ vs1 → i ∈ own.map (·.2)) (h0 : ∀ i, i ∈ T0 → i ∈ W) (h1 : ∀ i, i ∈ T1 → i ∈ W) (h2 : ∀ i, i ∈ T2 → i ∈ W) (h3 : ∀ i, i ∈ T3 → i ∈ W) (h4 : ∀ i, i ∈ T4 → i ∈ W) (hvW : ∀ i, i ∈ own.map (·.2) → i ∉ W)
    (hc : X.calm = true) (hN : X.N.Nodup) (hi : PI X tg iter (tVI (gd X) T0 κ src)) (ok : BlkOk X.N X.env.scope scope own)
    (hg : ∀ s H C cl fp, PG (Cb X scope s H C cl fp) tg (tG (gd X) Φc κ κ m)) (ht : ∀ s H C cl fp, PTs (Cb X scope s H C cl fp) ifs (tVT (gd X) T1 κ t)) (hi1 : ∀ s H C cl fp, PI (Cb X scope s H C cl fp) tg1 iter1 (tVI (gd X) T3 κ src1))
    (hg1 : ∀ s H C cl fp, PG (Cb X scope s H C cl fp) tg1 (tG (gd X) Φd κ κ m1)) (ht1 : ∀ s H C cl fp, PTs (Cb X scope s H C cl fp) ifs1 (tVT (gd X) T4 κ t1)) (he : ∀ s H C cl fp, PE (Cb X scope s H C cl fp) elt (tV (gd X) T2 κ k e)) (hs : ∀ x, foldedSetIterable iter X.env x = pure x := by intro _; rfl) (hs1 : ∀ env x, foldedSetIterable iter1 env x = pure x := by intro _ _; rfl) :
    PE X (.ListComp elt [⟨tg, iter, ifs, 0⟩, ⟨tg1, iter1, ifs1, 0⟩] scope pos) (tV (gd X) W κ (k + 1) (lcF (clF src (own.map (·.2)) m t (clF src1 vs1 m1 t1 (oneF e))))) :=
  (pe_lc2 hc hN hi ok hvs hg ht hi1 hg1 ht1 he hs hs1).imp fun σ H Q h => lc_ok hv hΦ h0 h1 hvW (inner_ok (fun i z => hv i (hvs i z)) hΦd h3 h4 (fun i z => hvW i (hvs i z)) (one_ok h2)) h
theorem vs_setLc2 {i j : Nat} {y : Str} (W : List Nat) (own : List (Str × Nat)) (vs1 : List Nat) (hv : ∀ i, i ∈ own.map (·.2) → κ.getD i 0 = 0) (hΦ : ∀ i, i < κ.length → i ∈ own.map (·.2) ∨ i ∈ Φc) (hΦd : ∀ i, i < κ.length → i ∈ vs1 ∨ i ∈ Φd) (hvs : ∀ i, i ∈ vs1 → i ∈ own.map (·.2)) (h0 : ∀ i, i ∈ T0 → i ∈ W) (h1 : ∀ i, i ∈ T1 → i ∈ W) (h2 : ∀ i, i ∈ T2 → i ∈ W) (h3 : ∀ i, i ∈ T3 → i ∈ W) (h4 : ∀ i, i ∈ T4 → i ∈ W) (hvW : ∀ i, i ∈ own.map (·.2) → i ∉ W) (hi0 : i ∉ Φ) (hk : i < κ.length)
    (hc : X.calm = true) (hN : X.N.Nodup) (hy : X.N[i]? = some y) (hyl : X.env.scope.names.lookup y = some .local) (hsw : swapsWith (.ListComp elt [⟨tg, iter, ifs, 0⟩, ⟨tg1, iter1, ifs1, 0⟩] scope pos) (some (.Name y py)) spos.line X.env = pure true) (hi : PI X tg iter (tVI (gd X) T0 κ src)) (ok : BlkOk X.N X.env.scope scope own)
    (hg : ∀ s H C cl fp, PG (Cb X scope s H C cl fp) tg (tG (gd X) Φc κ κ m)) (ht : ∀ s H C cl fp, PTs (Cb X scope s H C cl fp) ifs (tVT (gd X) T1 κ t)) (hi1 : ∀ s H C cl fp, PI (Cb X scope s H C cl fp) tg1 iter1 (tVI (gd X) T3 κ src1))
    (hg1 : ∀ s H C cl fp, PG (Cb X scope s H C cl fp) tg1 (tG (gd X) Φd κ κ m1)) (ht1 : ∀ s H C cl fp, PTs (Cb X scope s H C cl fp) ifs1 (tVT (gd X) T4 κ t1)) (he : ∀ s H C cl fp, PE (Cb X scope s H C cl fp) elt (tV (gd X) T2 κ k e)) (hs : ∀ x, foldedSetIterable iter X.env x = pure x := by intro _; rfl) (hs1 : ∀ env x, foldedSetIterable iter1 env x = pure x := by intro _ _; rfl) :
    PS X (.Assign [.Name y py] (.ListComp elt [⟨tg, iter, ifs, 0⟩, ⟨tg1, iter1, ifs1, 0⟩] scope pos) spos) (tS (gd X) Φ κ (κ.set i (k + 1)) κb j (setS i (lcF (clF src (own.map (·.2)) m t (clF src1 vs1 m1 t1 (oneF e)))))) :=
  PS.imp (ps_setLc2 hc hN hy hyl hsw hi ok hvs hg ht hi1 hg1 ht1 he hs hs1) fun E σ H ⟨M, P, ρ, Fs, o, hM, R, A, e, q⟩ => lc_ok hv hΦ h0 h1 hvW (inner_ok (fun i z => hv i (hvs i z)) hΦd h3 h4 (fun i z => hvW i (hvs i z)) (one_ok h2)) (set_at hM hi0 hk R A e q)
end
end VS

set_option Elab.async false
set_option linter.all false
set_option maxRecDepth 100000
/-! Sources over data: what a for and a comprehension walk over. -/
namespace VS
open PySem PySem.Spec PyProof.Rows L2

def seqD : D → Option (List D)
  | .lst xs => some xs
  | .tup xs => some xs
  | _ => none
/-! ### a list or a tuple -/
def iSeq (K : PySem.W.Frag) (tl : TE) : TI := fun σ H R => tl σ H fun x H1 => ∃ a, x = .ref a ∧ (((∃ xs, SqL K H1 a xs) ∧ R (Itl K a) H1) ∨ ((∃ xs, SqT K H1 a xs) ∧ R (Itt K a) H1))
theorem pi_seq {X : Cx} {tg e : Expr} {te : TE} (he : PE X e te) : PI X tg e (iSeq X.K te) := by
  refine ⟨fun pins s σ H R I h => thn (he.run pins s σ H _ I h) fun v s1 ⟨x, H1, I1, rx, a, ex, q⟩ => ?_⟩
  subst ex
  cases rx
  rcases q with ⟨⟨xs, hq⟩, q⟩ | ⟨⟨xs, hq⟩, q⟩
  · obtain ⟨its, rv, p, hz⟩ := I1.list hq
    exact wpAny_pyIter_list p.isList (pi_one I1 _ (turn_list a _) ⟨_, Heap.get?_push_size _ rfl, rfl, rfl⟩ q)
  · obtain ⟨its, rv, p, hz⟩ := I1.tuple hq
    exact wpAny_pyIter_tuple (show s1.heap.IsTuple a its.toArray from p) (pi_one I1 _ (turn_tuple a _) ⟨_, Heap.get?_push_size _ rfl, rfl, rfl⟩ q)
section
variable {G : Wd} {P P' : Addr → Prop} {H H' : Hp}
theorem Den.lstI {a : Addr} {ds : List D} (h : Den G P H (.ref a) (.lst ds)) : ∃ vs, SqL G.K H a vs ∧ DenL G P H vs ds := by
  cases h with
  | lst h r => exact ⟨_, h.sq, r⟩
theorem Den.tupI {a : Addr} {ds : List D} (h : Den G P H (.ref a) (.tup ds)) : ∃ vs, SqT G.K H a vs ∧ DenL G P H vs ds := by
  cases h with
  | tup h r => exact ⟨_, .inl (.inl h), r⟩
theorem walkL {a : Addr} {ds : List D} (h : Den G P H (.ref a) (.lst ds)) : WalkD G (Itl G.K a) ds P H where
  go := fun P' H' i L hi => by
    obtain ⟨vs, h1, h2⟩ := (L _ _ h).lstI
    have := h2.length
    exact ⟨vs, vs[i], h1, List.getElem?_eq_getElem (by omega)⟩
  stop := fun P' H' L => by
    obtain ⟨vs, h1, h2⟩ := (L _ _ h).lstI
    exact ⟨vs, h1, Nat.le_of_eq h2.length⟩
  yld := fun P' H' i x H2 d L hd hy => by
    obtain ⟨vs, h1, h2⟩ := (L _ _ h).lstI
    obtain ⟨rfl, hy⟩ := hy
    obtain ⟨v, h3, h4⟩ := h2.get hd
    have := hy vs h1
    rw [h3] at this
    cases this
    exact ⟨fun _ _ z => z, h4⟩
theorem walkT {a : Addr} {ds : List D} (h : Den G P H (.ref a) (.tup ds)) : WalkD G (Itt G.K a) ds P H where
  go := fun P' H' i L hi => by
    obtain ⟨vs, h1, h2⟩ := (L _ _ h).tupI
    have := h2.length
    exact ⟨vs, vs[i], h1, List.getElem?_eq_getElem (by omega)⟩
  stop := fun P' H' L => by
    obtain ⟨vs, h1, h2⟩ := (L _ _ h).tupI
    exact ⟨vs, h1, Nat.le_of_eq h2.length⟩
  yld := fun P' H' i x H2 d L hd hy => by
    obtain ⟨vs, h1, h2⟩ := (L _ _ h).tupI
    obtain ⟨rfl, hy⟩ := hy
    obtain ⟨v, h3, h4⟩ := h2.get hd
    have := hy vs h1
    rw [h3] at this
    cases this
    exact ⟨fun _ _ z => z, h4⟩
end
def seqSrc (f : Sem0) : Cls := fun ρ => (f ρ).bind fun p => (seqD p.1).bind fun xs => some (xs, p.2)
section
variable {X : Cx} {tg e : Expr} {T κ : List Nat} {f : Sem0}
theorem vi_seq (he : PE X e (tV (gd X) T κ 0 f)) : PI X tg e (tVI (gd X) T κ (seqSrc f)) := (pi_seq he).imp fun σ H Q ⟨P, ρ, Fs, ds, ρ', R, e, q⟩ => by
  unfold seqSrc at e
  obtain ⟨⟨d, ρ1⟩, e1, e⟩ := Option.bind_eq_some_iff.mp e
  obtain ⟨xs, e2, e⟩ := Option.bind_eq_some_iff.mp e
  cases e
  refine ⟨P, ρ, Fs, d, _, R, e1, fun v H' P' F Fs' R' o nd fr E st gr => ?_⟩
  have dn := o.1
  cases d with
  | lst ys =>
    cases e2
    cases dn with
    | lst h r =>
      have dn : Den (gd X) P' H' _ _ := .lst h r
      obtain ⟨vs, h1, h2⟩ := dn.lstI
      exact ⟨_, rfl, .inl ⟨⟨vs, h1⟩, q _ H' P' Fs' R' (walkL dn) E st gr⟩⟩
  | tup ys =>
    cases e2
    cases dn with
    | tup h r =>
      have dn : Den (gd X) P' H' _ _ := .tup h r
      obtain ⟨vs, h1, h2⟩ := dn.tupI
      exact ⟨_, rfl, .inr ⟨⟨vs, h1⟩, q _ H' P' Fs' R' (walkT dn) E st gr⟩⟩
  | _ => cases e2
end
/-! ### ranges -/
def rngD (lo : Int) (n : Nat) : List D := (List.range n).map fun i => .int (lo + (i : Nat))
def rngC (lo c : Int) (n : Nat) : List D := (List.range n).map fun i => .int (lo + (i : Nat) * c)
def inB (i : Int) : Bool := decide (-(2 ^ 62) ≤ i ∧ i < 2 ^ 62)
def rng1 (os : List Od) : Cls := fun ρ => (seqF os ρ).bind fun p => match p.1 with
  | [.int j] => if inB j = true then some (rngD 0 j.toNat, p.2) else none
  | _ => none
def rng2 (os : List Od) : Cls := fun ρ => (seqF os ρ).bind fun p => match p.1 with
  | [.int i, .int j] => if inB i = true ∧ inB j = true then some (rngD i (j - i).toNat, p.2) else none
  | _ => none
def rngDown (os : List Od) : Cls := fun ρ => (seqF os ρ).bind fun p => match p.1 with
  | [.int i, .int j, .int c] => if c = -1 ∧ inB i = true ∧ inB j = true then some (rngC i (-1) (i - j).toNat, p.2) else none
  | _ => none
theorem inB_iff {i : Int} (h : inB i = true) : -(2 ^ 62) ≤ i ∧ i < 2 ^ 62 := by
  unfold inB at h
  exact of_decide_eq_true h
section
variable {G : Wd} {P P' : Addr → Prop} {H H' : Hp}
theorem walkR {lo : Int} {n : Nat} : WalkD G (Itr lo n) (rngD lo n) P H where
  go := fun P' H' i L hi => by
    unfold rngD at hi
    simp at hi
    exact hi
  stop := fun P' H' L => by
    show n ≤ (rngD lo n).length
    unfold rngD
    simp
  yld := fun P' H' i x H2 d L hd hy => by
    obtain ⟨rfl, rfl⟩ := hy
    unfold rngD at hd
    rw [List.getElem?_map] at hd
    cases h : (List.range n)[i]? with
    | none => rw [h] at hd; cases hd
    | some j =>
      rw [h] at hd
      cases hd
      obtain ⟨h1, h2⟩ := List.getElem?_eq_some_iff.mp h
      rw [List.getElem_range] at h2
      subst h2
      exact ⟨fun _ _ z => z, .int _⟩
theorem walkC {lo c : Int} {n : Nat} : WalkD G (Itc lo c n) (rngC lo c n) P H where
  go := fun P' H' i L hi => by
    unfold rngC at hi
    simp at hi
    exact hi
  stop := fun P' H' L => by
    show n ≤ (rngC lo c n).length
    unfold rngC
    simp
  yld := fun P' H' i x H2 d L hd hy => by
    obtain ⟨rfl, rfl⟩ := hy
    unfold rngC at hd
    rw [List.getElem?_map] at hd
    cases h : (List.range n)[i]? with
    | none => rw [h] at hd; cases hd
    | some j =>
      rw [h] at hd
      cases hd
      obtain ⟨h1, h2⟩ := List.getElem?_eq_some_iff.mp h
      rw [List.getElem_range] at h2
      subst h2
      exact ⟨fun _ _ z => z, .int _⟩
theorem int_own {k : Nat} {v : V} {i : Int} {F : List Addr} (o : OwnK G P H k v (.int i) F) : v = .int i := by
  have := (o.of_flat rfl).1
  cases this
  rfl
end
section
variable {X : Cx} {tg a b c : Expr} {κ : List Nat} {os : List Od} {p pos : Pos}
/-- a source out of arguments' values -/
theorem src_args {Q : It → Hp → Prop} {σ : L2.St} {H : Hp} {P : Addr → Prop} {ρ ρ' ds : List D} {Fs : Nat → List Addr} {J : It} {xs : List D} {R0 : List V → Hp → Prop} (wf : WfSeq κ os) (R : Rep (gd X) P H σ ρ κ Fs) (e1 : seqF os ρ = some (ds, ρ'))
    (q : ∀ (J : It) (H' : Hp) (P' : Addr → Prop) (Fs' : Nat → List Addr), Rep (gd X) P' H' σ ρ' κ Fs' → WalkD (gd X) J xs P' H' → Ext (Zt (Ts os) Fs) P H P' H' → (∀ i, i ∉ (Ts os) → Fs' i = Fs i ∧ ρ'[i]? = ρ[i]?) → (∀ i a, a ∈ Fs' i → a ∈ Fs i ∨ H a = none) → Q J H')
    (hv : ∀ vs H1 P1 Fs1 Gs, Quad (OdAt (gd X) P1 H1 σ Fs1) os vs ds Gs → Q J H1 → R0 vs H1) (hW : ∀ P H, WalkD (gd X) J xs P H) : argsT (gd X) κ os σ H R0 :=
  args_ok os wf R e1 fun vs H1 P1 Gs Fs1 R1 qd nd fr E st gr => hv vs H1 P1 Fs1 Gs qd (q J H1 P1 Fs1 R1 (hW P1 H1) E st gr)
theorem vi_rng1 (hg : Gl X "range") (hm : X.mg "range" = none) (ha : VA X κ [a] os) (hs : starEach [a] X.env = [(false, eval a X.env)] := by rfl) : PI X tg (.Call (.Name "range" p) [a] [] pos) (tVI (gd X) (Ts os) κ (rng1 os)) :=
  (pi_range1 hg hm ha.pa hs).imp fun σ H Q ⟨P, ρ, Fs, xs, ρ', R, e, q⟩ => by
    unfold rng1 at e
    obtain ⟨⟨ds, ρ1⟩, e1, e⟩ := Option.bind_eq_some_iff.mp e
    dsimp only at e
    split at e
    · rename_i j
      split at e
      · rename_i hb
        cases e
        refine src_args (J := Itr 0 j.toNat) ha.wf R e1 q (fun vs H1 P1 Fs1 Gs qd z => ?_) fun _ _ => walkR
        cases qd with
        | cons r1 qd =>
          cases qd
          exact ⟨j, by rw [int_own r1.1], (inB_iff hb).1, (inB_iff hb).2, z⟩
      · cases e
    · cases e
theorem vi_rng2 (hg : Gl X "range") (hm : X.mg "range" = none) (ha : VA X κ [a, b] os) (hs : starEach [a, b] X.env = [(false, eval a X.env), (false, eval b X.env)] := by rfl) (hs2 : starEach [b] X.env = [(false, eval b X.env)] := by rfl) : PI X tg (.Call (.Name "range" p) [a, b] [] pos) (tVI (gd X) (Ts os) κ (rng2 os)) :=
  (pi_range2 hg hm ha.pa hs hs2).imp fun σ H Q ⟨P, ρ, Fs, xs, ρ', R, e, q⟩ => by
    unfold rng2 at e
    obtain ⟨⟨ds, ρ1⟩, e1, e⟩ := Option.bind_eq_some_iff.mp e
    dsimp only at e
    split at e
    · rename_i i j
      split at e
      · rename_i hb
        cases e
        refine src_args (J := Itr i (j - i).toNat) ha.wf R e1 q (fun vs H1 P1 Fs1 Gs qd z => ?_) fun _ _ => walkR
        cases qd with
        | cons r1 qd =>
          cases qd with
          | cons r2 qd =>
            cases qd
            exact ⟨i, j, by rw [int_own r1.1, int_own r2.1], ⟨(inB_iff hb.1).1, (inB_iff hb.1).2, (inB_iff hb.2).1, (inB_iff hb.2).2⟩, z⟩
      · cases e
    · cases e
theorem vi_rngDown (hg : Gl X "range") (hm : X.mg "range" = none) (ha : VA X κ [a, b, c] os) (hs : starEach [a, b, c] X.env = (false, eval a X.env) :: starEach [b, c] X.env := by rfl) (hpl : (backTo pos (starEach [b, c] X.env)).any (·.1) = false := by rfl) : PI X tg (.Call (.Name "range" p) [a, b, c] [] pos) (tVI (gd X) (Ts os) κ (rngDown os)) :=
  (pi_range3 hg hm ha.pa hs hpl).imp fun σ H Q ⟨P, ρ, Fs, xs, ρ', R, e, q⟩ => by
    unfold rngDown at e
    obtain ⟨⟨ds, ρ1⟩, e1, e⟩ := Option.bind_eq_some_iff.mp e
    dsimp only at e
    split at e
    · rename_i i j c
      split at e
      · rename_i hb
        obtain ⟨rfl, hb1, hb2⟩ := hb
        cases e
        refine src_args (J := Itc i (-1) (i - j).toNat) ha.wf R e1 q (fun vs H1 P1 Fs1 Gs qd z => ?_) fun _ _ => walkC
        cases qd with
        | cons r1 qd =>
          cases qd with
          | cons r2 qd =>
            cases qd with
            | cons r3 qd =>
              cases qd
              exact ⟨i, j, -1, _, by rw [int_own r1.1, int_own r2.1, int_own r3.1], RgC.neg (inB_iff hb1).1 (inB_iff hb1).2 (inB_iff hb2).1 (inB_iff hb2).2, z⟩
      · cases e
    · cases e
end
/-! ### enumerate -/
def enumD : Nat → List D → List D
  | _, [] => []
  | n, x :: xs => .tup [.int (n : Nat), x] :: enumD (n + 1) xs
theorem enumD_length : ∀ (n : Nat) (xs : List D), (enumD n xs).length = xs.length
  | _, [] => rfl
  | n, x :: xs => by unfold enumD; rw [List.length_cons, List.length_cons, enumD_length]
theorem enumD_get : ∀ (n : Nat) (xs : List D) (i : Nat), (enumD n xs)[i]? = xs[i]?.map fun x => .tup [.int ((n + i : Nat) : Int), x]
  | _, [], _ => rfl
  | n, x :: xs, 0 => rfl
  | n, x :: xs, i + 1 => by
    unfold enumD
    rw [List.getElem?_cons_succ, List.getElem?_cons_succ, enumD_get, Nat.add_right_comm]
    rfl
/-- over a tuple -/
def IteT (K : PySem.W.Frag) (a : Addr) : It where
  go := fun i H => ∃ (xs : List V) (x : V), SqT K H a xs ∧ xs[i]? = some x
  yld := fun i H v H' => ∃ T x, v = .ref T ∧ H T = none ∧ H' = upd H T (.tup [.int (i : Nat), x]) ∧ ∀ xs, SqT K H a xs → xs[i]? = some x
  stop := fun i H => ∃ xs : List V, SqT K H a xs ∧ xs.length = i
theorem turn_enumT {P : Program} {w : World} {K : PySem.W.Frag} {elts : List Expr} {kk : Nat} {tpos : Pos} (a e it : Addr) (hae : a ≠ it) :
    Turn P w K (.Tuple elts kk tpos) (IteT K a) [e, it] e (fun i h => (∃ old, IsEnum h e it ((i : Nat) : Int) old) ∧ h.IsTupleIter it a i ∧ e ≠ it) where
  mem := by simp
  obj := fun i h ⟨⟨old, he⟩, ⟨o, ho, hc, hd⟩, _⟩ b hb => by
    rcases (by simpa using hb : b = e ∨ b = it) with rfl | rfl
    · exact ⟨_, he, fun v q => nomatch q⟩
    · exact ⟨o, ho, fun v q => by rw [hd] at q; cases q⟩
  keep := fun i h h' ⟨⟨old, he⟩, hi, hne⟩ k => ⟨⟨old, k e (by simp) _ he⟩, hi.at fun o q => k it (by simp) o q, hne⟩
  item := by
    rintro X rfl rfl rfl hc i pins s σ H E I hf ⟨⟨old, he⟩, hit, hne⟩ ⟨xs, x, hq, hx⟩
    obtain ⟨its, rv, p, hz⟩ := I.tuple hq
    obtain ⟨u, hu, ru⟩ := rv.get hx
    have hel : e < s.heap.objs.size := Heap.lt_size he
    have hil : it < s.heap.objs.size := let ⟨_, q, _⟩ := hit; Heap.lt_size q
    have hea : e ≠ a := fun z => by
      obtain ⟨o, ho, hcl, _⟩ := p
      rw [← z] at ho
      have := ho.symm.trans he
      cases this
      simp at hcl
    have hu' : its.toArray[i]? = some u := by simpa using hu
    have hlt : i < its.toArray.size := by
      by_cases c : i < its.toArray.size
      · exact c
      · rw [Array.getElem?_eq_none (by omega)] at hu'; cases hu'
    refine wpAny_pyNext_enum_itemD (Draws.tuple (show X.A.in1.handled = none from I.ok.hd hc) it a hae its.toArray) he ⟨hit, p⟩ hlt hne (by simp [hne, hea]) fun y h' tk hy ho hs hT hsz hk => ?_
    have ey : u = y := Option.some.inj (hu'.symm.trans hy)
    subst ey
    refine ⟨_, rfl, wpAny_letOwnedTupleGo_enum (s := { s with heap := h', toks := tk + 1 }) ho fun h'' he' sb => ?_⟩
    have hT2 := (sb.2 _ (Nat.ne_of_gt hel)).trans hT
    have new : ObjOk X.prog X.w (upd H s.heap.objs.size (.tup [.int (i : Nat), x])) h'' s.heap.objs.size (.tup [.int (i : Nat), x]) :=
      ⟨show 2 ≤ sizeLine by decide, [.int i tk, u], .cons ⟨_, rfl⟩ (.cons ru .nil), ⟨_, hT2, rfl, _, rfl⟩⟩
    have I1 : Inv X pins σ (upd H s.heap.objs.size (.tup [.int (i : Nat), x])) { s with heap := h'', toks := tk + 1 } :=
      I.turnedNew (ch := [e, it]) (fun b ob hb q => (sb.2 b fun z => hb (by simp [z])).trans (hk b ob (fun z => hb (by simp [z])) (fun z => hb (by simp [z])) q)) hf (Nat.le_refl _) new
    refine ⟨.ref s.heap.objs.size, _, I1, rfl, ⟨_, x, rfl, I.hok.fresh (Nat.le_refl _), rfl, fun ys hy => by rw [I.tuple_inj hy hq]; exact hx⟩, ⟨⟨u, ?_⟩, hs.1.at fun o q => (sb.2 it (Ne.symm hne)).trans q, hne⟩, fun b hb => ?_⟩
    · rw [Int.natCast_succ]; exact he'
    · have hlb : b < s.heap.objs.size := by
        rcases (by simpa using hb : b = e ∨ b = it) with rfl | rfl
        · exact hel
        · exact hil
      rw [upd_ne (Nat.ne_of_lt hlb)]
      exact (hf b hb).1
  done := by
    rintro X rfl rfl rfl hc i pins s σ H E I hf ⟨⟨old, he⟩, hit, hne⟩ ⟨xs, hq, hx⟩
    obtain ⟨its, rv, p, hz⟩ := I.tuple hq
    obtain ⟨f0, f1, f2, f3, f4, f5⟩ := hf it (by simp)
    have hn : its.toArray.size = i := by
      have := rv.length
      simp
      omega
    exact wpAny_pyNext_enum_endD (Draws.tuple (show X.A.in1.handled = none from I.ok.hd hc) it a hae its.toArray) he ⟨hn ▸ hit, p⟩ fun h' eb => ⟨rfl, I.turned (t' := s.toks) (fun b o hb e => eb b o hb e) f0 f1 f3 f4 f5⟩
  self := fun A i s Q E ⟨⟨_, he⟩, _⟩ h => wpAny_pyIter_enum he h
set_option maxHeartbeats 1000000 in
theorem meets_enumT (t : Addr) (items : Array Value) :
    Meets (Builtin.«enumerate.__new__» ⟨[.type "enumerate", .ref t], []⟩) (fun _ R s => s.heap.IsTuple t items ∧
      R (.ok (.ret (.ref (s.heap.push { cls := .type "tuple_iterator", data := .fields #[.ref t, .int 0 0] }).objs.size)))
        { s with heap := (s.heap.push { cls := .type "tuple_iterator", data := .fields #[.ref t, .int 0 0] }).push { cls := .type "enumerate", data := .fields #[.none, .bool false, .ref s.heap.objs.size, rawInt 0, .none, .none] } }) :=
  .of_wp fun prog w A R s h => by
    obtain ⟨hp, g, d, tk, os⟩ := s
    obtain ⟨hl, h⟩ := h
    have hsub := sub_enumerate
    have q1 : ∀ {A' : Around} {E : Value → Shared → Prop} {Q : Value → Shared → Prop}, Q (.ref hp.objs.size) ⟨hp.push { cls := .type "tuple_iterator", data := .fields #[.ref t, .int 0 0] }, g, d, tk, os⟩ → wpAny (model prog w) A' (pyIter (.ref t)) Q E ⟨hp, g, d, tk, os⟩ :=
      fun q => wpAny_pyIter_tuple hl q
    wp_walk using q1
    refine wpAny_stack_any fun st => wpAny_pure ?_
    split
    · rename_i c _ _ _ _ _
      cases (c == Value.type "enumerate") <;> (wp_walk using q1; exact ⟨_, rfl, h⟩)
    · wp_walk using q1
      exact ⟨_, rfl, h⟩
theorem call_enumT {prog : Program} {w : World} {A : Around} {E : Value → Shared → Prop} {s : Shared} {t : Addr} {items : Array Value} {Q : Value → Shared → Prop} (hL : s.heap.IsTuple t items)
    (h : ∀ h', IsEnum h' (s.heap.objs.size + 1) s.heap.objs.size 0 .none → h'.IsTupleIter s.heap.objs.size t 0 → (∀ b o, s.heap.get? b = some o → h'.get? b = some o) → Q (.ref (s.heap.objs.size + 1)) { s with heap := h' }) :
    wpAny (model prog w) A (call (.type "enumerate") [.ref t]) Q E s := by
  refine callType_new F.called_enumerate (by decide) (F.typeCall_enumerate_1 _) (F.newCall_enumerate_1 _) (fun obj => F.args_object_init_2 obj _) F.entry_enumerate_new (meets_enumT t items) ⟨hL, ?_⟩
  have hz : (s.heap.push { cls := .type "tuple_iterator", data := .fields #[.ref t, .int 0 0] }).objs.size = s.heap.objs.size + 1 := Heap.size_push ..
  show _ ∧ _
  rw [hz]
  have he := Heap.get?_push_size (s.heap.push { cls := .type "tuple_iterator", data := .fields #[.ref t, .int 0 0] }) (o := { cls := .type "enumerate", data := .fields #[.none, .bool false, .ref s.heap.objs.size, rawInt 0, .none, .none] }) rfl
  rw [hz] at he
  exact ⟨⟨_, he, rfl⟩, h _ he ⟨_, Heap.get?_push_of_some _ (Heap.get?_push_size _ rfl), rfl, rfl⟩ fun b o x => Heap.get?_push_of_some _ (Heap.get?_push_of_some _ x)⟩
def iEnumA (K : PySem.W.Frag) (ta : TA) : TI := fun σ H R => ta σ H fun vs H1 => ∃ a xs, vs = [.ref a] ∧ ((SqL K H1 a xs ∧ R (Ite K a) H1) ∨ (SqT K H1 a xs ∧ R (IteT K a) H1))
theorem pi_enumA {X : Cx} {e : Expr} {ta : TA} {p pos tpos : Pos} {elts : List Expr} {kk : Nat} (hg : Gl X "enumerate") (hm : X.mg "enumerate" = none) (ha : PA X [e] ta) (hs : starEach [e] X.env = [(false, eval e X.env)] := by rfl) :
    PI X (.Tuple elts kk tpos) (.Call (.Name "enumerate" p) [e] [] pos) (iEnumA X.K ta) := by
  refine ⟨fun pins s σ H R I h => Call_ (ld_blt I hg hm boot_enumerate (PyProof.Rows.callWith_type1 (thn (ha.run pos pins s σ H _ I h) fun us s1 ⟨vs, H1, I1, r1, a, xs, ex, q⟩ => ?_) hs rfl))⟩
  subst ex
  cases r1 with
  | cons r rr =>
    cases rr
    cases r
    have fr : ∀ b, b ∈ [s1.heap.objs.size + 1, s1.heap.objs.size] → FpOk X pins H1 b := fun b hb => by
      have hle : s1.heap.objs.size ≤ b := by
        rcases (by simpa using hb : b = s1.heap.objs.size + 1 ∨ b = s1.heap.objs.size) with z | z <;> omega
      exact I1.fpOk hle (I1.hok.fresh hle)
    rcases q with ⟨hq, q⟩ | ⟨hq, q⟩
    · obtain ⟨its, rv, p', hz⟩ := I1.list hq
      exact call_enumerate_list p'.isList fun h' he hit hsz hk => wpAny_pyIter_enum he
        ⟨s1.heap.objs.size + 1, [s1.heap.objs.size + 1, s1.heap.objs.size], _, _, H1, rfl, I1.kept (t' := s1.toks) hk, turn_enum a _ _, ⟨⟨.none, he⟩, hit, Nat.succ_ne_self _⟩, fr, q⟩
    · obtain ⟨its, rv, p', hz⟩ := I1.tuple hq
      have hlt : a < s1.heap.objs.size := let ⟨_, ho, _⟩ := p'; Heap.lt_size ho
      exact call_enumT (show s1.heap.IsTuple a its.toArray from p') fun h' he hit hk => wpAny_pyIter_enum he
        ⟨s1.heap.objs.size + 1, [s1.heap.objs.size + 1, s1.heap.objs.size], _, _, H1, rfl, I1.kept (t' := s1.toks) hk, turn_enumT a _ _ (Nat.ne_of_lt hlt), ⟨⟨.none, he⟩, hit, Nat.succ_ne_self _⟩, fr, q⟩
section
variable {G : Wd} {P P' : Addr → Prop} {H H' : Hp}
theorem den_pair {T : Addr} {x y : V} {d d' : D} (hT : H T = none) (h1 : Den G P H x d) (h2 : Den G P H y d') : (∀ a o, H a = some o → upd H T (.tup [x, y]) a = some o) ∧ Den G P (upd H T (.tup [x, y])) (.ref T) (.tup [d, d']) := by
  have k : ∀ a o, H a = some o → upd H T (.tup [x, y]) a = some o := fun a o e => by rw [upd_ne (ne_of_none e hT)]; exact e
  have E : Ext (fun _ => False) P H P (upd H T (.tup [x, y])) := Ext.new k
  exact ⟨k, .tup upd_same (.cons (h1.ext E) (.cons (h2.ext E) .nil))⟩
theorem walkE {a : Addr} {ds : List D} (h : Den G P H (.ref a) (.lst ds)) : WalkD G (Ite G.K a) (enumD 0 ds) P H where
  go := fun P' H' i L hi => by
    rw [enumD_length] at hi
    obtain ⟨vs, h1, h2⟩ := (L _ _ h).lstI
    have := h2.length
    exact ⟨vs, vs[i], h1, List.getElem?_eq_getElem (by omega)⟩
  stop := fun P' H' L => by
    obtain ⟨vs, h1, h2⟩ := (L _ _ h).lstI
    exact ⟨vs, h1, by rw [enumD_length]; exact Nat.le_of_eq h2.length⟩
  yld := fun P' H' i x H2 d L hd hy => by
    obtain ⟨vs, h1, h2⟩ := (L _ _ h).lstI
    obtain ⟨T, y, rfl, hT, rfl, hy⟩ := hy
    rw [enumD_get] at hd
    cases hx : ds[i]? with
    | none => rw [hx] at hd; cases hd
    | some d' =>
      rw [hx] at hd
      cases hd
      obtain ⟨v, h3, h4⟩ := h2.get hx
      have := hy vs h1
      rw [h3] at this
      cases this
      rw [Nat.zero_add]
      exact den_pair hT (.int _) h4
theorem walkET {a : Addr} {ds : List D} (h : Den G P H (.ref a) (.tup ds)) : WalkD G (IteT G.K a) (enumD 0 ds) P H where
  go := fun P' H' i L hi => by
    rw [enumD_length] at hi
    obtain ⟨vs, h1, h2⟩ := (L _ _ h).tupI
    have := h2.length
    exact ⟨vs, vs[i], h1, List.getElem?_eq_getElem (by omega)⟩
  stop := fun P' H' L => by
    obtain ⟨vs, h1, h2⟩ := (L _ _ h).tupI
    exact ⟨vs, h1, by rw [enumD_length]; exact h2.length⟩
  yld := fun P' H' i x H2 d L hd hy => by
    obtain ⟨vs, h1, h2⟩ := (L _ _ h).tupI
    obtain ⟨T, y, rfl, hT, rfl, hy⟩ := hy
    rw [enumD_get] at hd
    cases hx : ds[i]? with
    | none => rw [hx] at hd; cases hd
    | some d' =>
      rw [hx] at hd
      cases hd
      obtain ⟨v, h3, h4⟩ := h2.get hx
      have := hy vs h1
      rw [h3] at this
      cases this
      rw [Nat.zero_add]
      exact den_pair hT (.int _) h4
end
def enumSrc (f : Sem0) : Cls := fun ρ => (f ρ).bind fun p => (seqD p.1).bind fun xs => some (enumD 0 xs, p.2)
section
variable {X : Cx} {tg e : Expr} {T κ : List Nat} {f : Sem0} {p pos tpos : Pos} {elts : List Expr} {kk : Nat}
theorem vi_enum (hg : Gl X "enumerate") (hm : X.mg "enumerate" = none) (he : PE X e (tV (gd X) T κ 0 f)) (hs : starEach [e] X.env = [(false, eval e X.env)] := by rfl) (hs2 : starEach [e] X.env = (false, eval e X.env) :: starEach [] X.env := by rfl) : PI X (.Tuple elts kk tpos) (.Call (.Name "enumerate" p) [e] [] pos) (tVI (gd X) T κ (enumSrc f)) :=
  (pi_enumA hg hm (pa_cons he pa_nil hs2) hs).imp fun σ H Q ⟨P, ρ, Fs, ds, ρ', R, e, q⟩ => by
    unfold enumSrc at e
    obtain ⟨⟨d, ρ1⟩, e1, e⟩ := Option.bind_eq_some_iff.mp e
    obtain ⟨xs, e2, e⟩ := Option.bind_eq_some_iff.mp e
    cases e
    refine ⟨P, ρ, Fs, d, _, R, e1, fun v H' P' F Fs' R' o nd fr E st gr => ?_⟩
    have dn := o.1
    cases d with
    | lst ys =>
      cases e2
      cases dn with
      | lst h r =>
        have dn : Den (gd X) P' H' _ _ := .lst h r
        obtain ⟨vs, h1, h2⟩ := dn.lstI
        exact ⟨_, vs, rfl, .inl ⟨h1, q _ H' P' Fs' R' (walkE dn) E st gr⟩⟩
    | tup ys =>
      cases e2
      cases dn with
      | tup h r =>
        have dn : Den (gd X) P' H' _ _ := .tup h r
        obtain ⟨vs, h1, h2⟩ := dn.tupI
        exact ⟨_, vs, rfl, .inr ⟨h1, q _ H' P' Fs' R' (walkET dn) E st gr⟩⟩
    | _ => cases e2
end
/-! ### zip -/
def zipD : List D → List D → List D
  | x :: xs, y :: ys => .tup [x, y] :: zipD xs ys
  | _, _ => []
theorem zipD_length : ∀ (xs ys : List D), (zipD xs ys).length = min xs.length ys.length
  | [], _ => by simp [zipD]
  | _ :: _, [] => by simp [zipD]
  | x :: xs, y :: ys => by unfold zipD; rw [List.length_cons, zipD_length, List.length_cons, List.length_cons]; omega
theorem zipD_get : ∀ (xs ys : List D) (i : Nat) (d : D), (zipD xs ys)[i]? = some d → ∃ x y, xs[i]? = some x ∧ ys[i]? = some y ∧ d = .tup [x, y]
  | [], _, _, _, h => by simp [zipD] at h
  | _ :: _, [], _, _, h => by simp [zipD] at h
  | x :: xs, y :: ys, 0, d, h => by
    unfold zipD at h
    simp at h
    exact ⟨x, y, rfl, rfl, h.symm⟩
  | x :: xs, y :: ys, i + 1, d, h => by
    unfold zipD at h
    obtain ⟨a, b, c⟩ := zipD_get xs ys i d (by simpa using h)
    exact ⟨a, b, by simpa using c⟩
section
variable {G : Wd} {P P' : Addr → Prop} {H H' : Hp}
theorem walkZ {a b : Addr} {xs ys : List D} (h : Den G P H (.ref a) (.lst xs)) (h' : Den G P H (.ref b) (.lst ys)) : WalkD G (Itz G.K a b) (zipD xs ys) P H where
  go := fun P' H' i L hi => by
    rw [zipD_length] at hi
    obtain ⟨vs, h1, h2⟩ := (L _ _ h).lstI
    obtain ⟨ws, h3, h4⟩ := (L _ _ h').lstI
    have l1 := h2.length
    have l2 := h4.length
    exact ⟨vs, ws, vs[i], ws[i], h1, h3, List.getElem?_eq_getElem (by omega), List.getElem?_eq_getElem (by omega)⟩
  stop := fun P' H' L => by
    obtain ⟨vs, h1, h2⟩ := (L _ _ h).lstI
    obtain ⟨ws, h3, h4⟩ := (L _ _ h').lstI
    have l1 := h2.length
    have l2 := h4.length
    exact ⟨vs, ws, h1, h3, by rw [zipD_length]; omega⟩
  yld := fun P' H' i x H2 d L hd hy => by
    obtain ⟨vs, h1, h2⟩ := (L _ _ h).lstI
    obtain ⟨ws, h3, h4⟩ := (L _ _ h').lstI
    obtain ⟨T, u, v, rfl, hT, rfl, hu, hv⟩ := hy
    obtain ⟨dx, dy, e1, e2, rfl⟩ := zipD_get _ _ _ _ hd
    obtain ⟨w1, a1, a2⟩ := h2.get e1
    obtain ⟨w2, b1, b2⟩ := h4.get e2
    have z1 := hu vs h1
    have z2 := hv ws h3
    rw [a1] at z1
    rw [b1] at z2
    cases z1
    cases z2
    exact den_pair hT a2 b2
theorem walkZT {a b : Addr} {xs ys : List D} (h : Den G P H (.ref a) (.tup xs)) (h' : Den G P H (.ref b) (.tup ys)) : WalkD G (RZ.ItzT G.K a b) (zipD xs ys) P H where
  go := fun P' H' i L hi => by
    rw [zipD_length] at hi
    obtain ⟨vs, h1, h2⟩ := (L _ _ h).tupI
    obtain ⟨ws, h3, h4⟩ := (L _ _ h').tupI
    have l1 := h2.length
    have l2 := h4.length
    exact ⟨vs, ws, vs[i], ws[i], h1, h3, List.getElem?_eq_getElem (by omega), List.getElem?_eq_getElem (by omega)⟩
  stop := fun P' H' L => by
    obtain ⟨vs, h1, h2⟩ := (L _ _ h).tupI
    obtain ⟨ws, h3, h4⟩ := (L _ _ h').tupI
    have l1 := h2.length
    have l2 := h4.length
    exact ⟨vs, ws, h1, h3, by rw [zipD_length]; omega⟩
  yld := fun P' H' i x H2 d L hd hy => by
    obtain ⟨vs, h1, h2⟩ := (L _ _ h).tupI
    obtain ⟨ws, h3, h4⟩ := (L _ _ h').tupI
    obtain ⟨T, u, v, rfl, hT, rfl, hu, hv⟩ := hy
    obtain ⟨dx, dy, e1, e2, rfl⟩ := zipD_get _ _ _ _ hd
    obtain ⟨w1, a1, a2⟩ := h2.get e1
    obtain ⟨w2, b1, b2⟩ := h4.get e2
    have z1 := hu vs h1
    have z2 := hv ws h3
    rw [a1] at z1
    rw [b1] at z2
    cases z1
    cases z2
    exact den_pair hT a2 b2
end
def zipG : D → D → Option (List D)
  | .lst xs, .lst ys => some (zipD xs ys)
  | .tup xs, .tup ys => some (zipD xs ys)
  | _, _ => none
def zipSrc (f g : Sem0) : Cls := fun ρ => (f ρ).bind fun p => (g p.2).bind fun q => (zipG p.1 q.1).bind fun zs => some (zs, q.2)
section
variable {X : Cx} {tg e e2 : Expr} {T U κ : List Nat} {f g : Sem0} {p pos tpos : Pos} {elts : List Expr} {kk : Nat}
theorem vi_zip (hg : Gl X "zip") (hm : X.mg "zip" = none) (he : PE X e (tV (gd X) T κ 0 f)) (he2 : PE X e2 (tV (gd X) U κ 0 g)) (hs : starEach [e, e2] X.env = (false, eval e X.env) :: starEach [e2] X.env := by rfl) (hpl : (backTo pos (starEach [e2] X.env)).any (·.1) = false := by rfl) (hs2 : starEach [e2] X.env = (false, eval e2 X.env) :: starEach [] X.env := by rfl) :
    PI X (.Tuple elts kk tpos) (.Call (.Name "zip" p) [e, e2] [] pos) (tVI (gd X) (T ++ U) κ (zipSrc f g)) :=
  (RZ.pi_zipA hg hm (pa_cons he (pa_cons he2 pa_nil hs2) hs) hs hpl).imp fun σ H Q ⟨P, ρ, Fs, ds, ρ', R, e, q⟩ => by
    unfold zipSrc at e
    obtain ⟨⟨d, ρ1⟩, e1, e⟩ := Option.bind_eq_some_iff.mp e
    obtain ⟨⟨d', ρ2⟩, e2, e⟩ := Option.bind_eq_some_iff.mp e
    obtain ⟨zs, e3, e⟩ := Option.bind_eq_some_iff.mp e
    cases e
    refine ⟨P, ρ, Fs, d, _, R, e1, fun v H1 P1 F1 Fs1 R1 o1 n1 fr1 E1 st1 gr1 => ⟨P1, ρ1, Fs1, d', _, R1, e2, fun v' H2 P2 F2 Fs2 R2 o2 n2 fr2 E2 st2 gr2 => ?_⟩⟩
    have s := Stp.trans R ⟨E1, st1, gr1⟩ ⟨E2, st2, gr2⟩
    have dn := o1.1.ext E2
    have dn2 := o2.1
    cases d <;> cases d' <;> try cases e3
    · cases dn with
      | tup h r =>
        cases dn2 with
        | tup h' r' =>
          have dn : Den (gd X) P2 H2 _ _ := .tup h r
          have dn2 : Den (gd X) P2 H2 _ _ := .tup h' r'
          obtain ⟨vs, a1, a2⟩ := dn.tupI
          obtain ⟨ws, b1, b2⟩ := dn2.tupI
          exact ⟨_, _, vs, ws, rfl, .inr ⟨a1, b1, q _ H2 P2 Fs2 R2 (walkZT dn dn2) s.ext s.st s.gr⟩⟩
    · cases dn with
      | lst h r =>
        cases dn2 with
        | lst h' r' =>
          have dn : Den (gd X) P2 H2 _ _ := .lst h r
          have dn2 : Den (gd X) P2 H2 _ _ := .lst h' r'
          obtain ⟨vs, a1, a2⟩ := dn.lstI
          obtain ⟨ws, b1, b2⟩ := dn2.lstI
          exact ⟨_, _, vs, ws, rfl, .inl ⟨a1, b1, q _ H2 P2 Fs2 R2 (walkZ dn dn2) s.ext s.st s.gr⟩⟩
end
/-! ### reversed -/
section
variable {G : Wd} {P P' : Addr → Prop} {H H' : Hp}
theorem rev_get {ds : List D} {i : Nat} {d : D} (h : ds.reverse[i]? = some d) : i < ds.length ∧ ds[ds.length - 1 - i]? = some d := by
  obtain ⟨hl, _⟩ := List.getElem?_eq_some_iff.mp h
  rw [List.length_reverse] at hl
  exact ⟨hl, by rw [List.getElem?_reverse hl] at h; exact h⟩
theorem walkV {a : Addr} {ds : List D} (h : Den G P H (.ref a) (.lst ds)) : WalkD G (Itv G.K a ds.length) ds.reverse P H where
  go := fun P' H' i L hi => by
    rw [List.length_reverse] at hi
    obtain ⟨vs, h1, h2⟩ := (L _ _ h).lstI
    have := h2.length
    exact ⟨hi, vs, vs[ds.length - 1 - i], h1, List.getElem?_eq_getElem (by omega)⟩
  stop := fun P' H' L => by
    show ds.length ≤ _
    rw [List.length_reverse]
    exact Nat.le_refl _
  yld := fun P' H' i x H2 d L hd hy => by
    obtain ⟨vs, h1, h2⟩ := (L _ _ h).lstI
    obtain ⟨rfl, hy⟩ := hy
    obtain ⟨v, h3, h4⟩ := h2.get (rev_get hd).2
    have := hy vs h1
    rw [h3] at this
    cases this
    exact ⟨fun _ _ z => z, h4⟩
theorem walkVT {a : Addr} {ds : List D} (h : Den G P H (.ref a) (.tup ds)) : WalkD G (RT.ItvT G.K a ds.length) ds.reverse P H where
  go := fun P' H' i L hi => by
    rw [List.length_reverse] at hi
    obtain ⟨vs, h1, h2⟩ := (L _ _ h).tupI
    have := h2.length
    exact ⟨hi, vs, vs[ds.length - 1 - i], h1, List.getElem?_eq_getElem (by omega)⟩
  stop := fun P' H' L => by
    show ds.length ≤ _
    rw [List.length_reverse]
    exact Nat.le_refl _
  yld := fun P' H' i x H2 d L hd hy => by
    obtain ⟨vs, h1, h2⟩ := (L _ _ h).tupI
    obtain ⟨rfl, hy⟩ := hy
    obtain ⟨v, h3, h4⟩ := h2.get (rev_get hd).2
    have := hy vs h1
    rw [h3] at this
    cases this
    exact ⟨fun _ _ z => z, h4⟩
end
def revSrc (f : Sem0) : Cls := fun ρ => (f ρ).bind fun p => (seqD p.1).bind fun xs => some (xs.reverse, p.2)
section
variable {X : Cx} {tg e : Expr} {T κ : List Nat} {f : Sem0} {p pos : Pos}
theorem vi_rev (hg : Gl X "reversed") (hm : X.mg "reversed" = none) (he : PE X e (tV (gd X) T κ 0 f)) (hs : starEach [e] X.env = (false, eval e X.env) :: starEach [] X.env := by rfl) : PI X tg (.Call (.Name "reversed" p) [e] [] pos) (tVI (gd X) T κ (revSrc f)) :=
  (RT.pi_revA hg hm he hs).imp fun σ H Q ⟨P, ρ, Fs, ds, ρ', R, e, q⟩ => by
    unfold revSrc at e
    obtain ⟨⟨d, ρ1⟩, e1, e⟩ := Option.bind_eq_some_iff.mp e
    obtain ⟨xs, e2, e⟩ := Option.bind_eq_some_iff.mp e
    cases e
    refine ⟨P, ρ, Fs, d, _, R, e1, fun v H' P' F Fs' R' o nd fr E st gr => ?_⟩
    have dn := o.1
    cases d with
    | lst ys =>
      cases e2
      cases dn with
      | lst h r =>
        have dn : Den (gd X) P' H' _ _ := .lst h r
        obtain ⟨vs, h1, h2⟩ := dn.lstI
        exact ⟨_, vs, rfl, .inl ⟨h1, by rw [h2.length]; exact q _ H' P' Fs' R' (walkV dn) E st gr⟩⟩
    | tup ys =>
      cases e2
      cases dn with
      | tup h r =>
        have dn : Den (gd X) P' H' _ _ := .tup h r
        obtain ⟨vs, h1, h2⟩ := dn.tupI
        exact ⟨_, vs, rfl, .inr ⟨h1, by rw [h2.length]; exact q _ H' P' Fs' R' (walkVT dn) E st gr⟩⟩
    | _ => cases e2
end
end VS

set_option Elab.async false
set_option linter.all false
set_option maxRecDepth 100000
/-! Operations on data. -/
namespace VS
open PySem PySem.Spec PyProof.Rows L2

namespace D
/-- no dict within, at most so deep -/
def fit : Nat → D → Bool
  | 0, _ => false
  | n + 1, d => match d with
    | .und => false
    | .dct .. => false
    | .tup xs => xs.all (fit n)
    | .lst xs => xs.all (fit n)
    | _ => true
mutual
def py : D → PyData
  | und => .none
  | non => .none
  | bl b => .bool b
  | int i => .int i
  | str s => .str s
  | tup xs => .tuple (pyL xs)
  | lst xs => .list (pyL xs)
  | dct .. => .none
def pyL : List D → List PyData
  | [] => []
  | x :: xs => py x :: pyL xs
end
theorem pyL_map : ∀ xs : List D, pyL xs = xs.map py
  | [] => by simp [pyL]
  | x :: xs => by rw [pyL, pyL_map xs]; rfl
mutual
/-- == -/
def eqv : D → D → Bool
  | non, non => true
  | bl a, bl b => a == b
  | bl a, int j => decide ((if a then 1 else 0) = j)
  | int i, bl b => decide (i = (if b then 1 else 0))
  | int i, int j => decide (i = j)
  | str x, str y => decide (x = y)
  | lst xs, lst ys => eqvL xs ys
  | tup xs, tup ys => eqvL xs ys
  | _, _ => false
def eqvL : List D → List D → Bool
  | [], [] => true
  | x :: xs, y :: ys => eqv x y && eqvL xs ys
  | _, _ => false
end
mutual
/-- < of data that are alike -/
def lt : D → D → Bool
  | bl a, bl b => !a && b
  | int a, int b => decide (a < b)
  | str a, str b => decide (a.cps.toList < b.cps.toList)
  | tup xs, tup ys => ltL xs ys
  | lst xs, lst ys => ltL xs ys
  | _, _ => false
def ltL : List D → List D → Bool
  | [], [] => false
  | [], _ :: _ => true
  | _ :: _, [] => false
  | x :: xs, y :: ys => if eqv x y then ltL xs ys else lt x y
end
mutual
/-- they can be compared, place by place -/
def alk : D → D → Bool
  | non, non => true
  | bl _, bl _ => true
  | int _, int _ => true
  | str _, str _ => true
  | tup xs, tup ys => alkL xs ys
  | lst xs, lst ys => alkL xs ys
  | _, _ => false
def alkL : List D → List D → Bool
  | x :: xs, y :: ys => alk x y && alkL xs ys
  | [], _ => true
  | _ :: _, [] => true
end
theorem fitL_cons {n : Nat} {x : D} {xs : List D} (h : (x :: xs).all (fit n) = true) : fit n x = true ∧ xs.all (fit n) = true := by
  rw [List.all_cons, Bool.and_eq_true] at h; exact h
mutual
theorem py_plain : ∀ (n : Nat) (d : D), fit n d = true → (py d).plain = true ∧ (py d).depth ≤ n
  | 0, _, h => by cases h
  | n + 1, und, h => by cases h
  | n + 1, non, h => ⟨rfl, by simp [py, PyData.depth]⟩
  | n + 1, bl _, h => ⟨rfl, by simp [py, PyData.depth]⟩
  | n + 1, int _, h => ⟨rfl, by simp [py, PyData.depth]⟩
  | n + 1, str _, h => ⟨rfl, by simp [py, PyData.depth]⟩
  | n + 1, tup xs, h => by
    obtain ⟨a, b⟩ := py_plainL n xs h
    refine ⟨by rw [py, PyData.plain]; exact a, ?_⟩
    rw [py, PyData.depth]; omega
  | n + 1, lst xs, h => by
    obtain ⟨a, b⟩ := py_plainL n xs h
    refine ⟨by rw [py, PyData.plain]; exact a, ?_⟩
    rw [py, PyData.depth]; omega
  | n + 1, dct .., h => by cases h
theorem py_plainL : ∀ (n : Nat) (xs : List D), xs.all (fit n) = true → PyData.plainAll (pyL xs) = true ∧ PyData.depthAll (pyL xs) ≤ n
  | n, [], _ => ⟨rfl, by simp [pyL, PyData.depthAll]⟩
  | n, x :: xs, h => by
    obtain ⟨h1, h2⟩ := fitL_cons h
    obtain ⟨a, b⟩ := py_plain n x h1
    obtain ⟨c, d⟩ := py_plainL n xs h2
    refine ⟨by rw [pyL, PyData.plainAll, a, c]; rfl, ?_⟩
    rw [pyL, PyData.depthAll]; omega
end
mutual
theorem py_eqv : ∀ (n : Nat) (a b : D), fit n a = true → fit n b = true → PyData.eqv (py a) (py b) = eqv a b
  | 0, _, _, h, _ => by cases h
  | n + 1, a, b, ha, hb => by
    cases a with
    | und => cases ha
    | dct => cases ha
    | tup xs =>
      cases b with
      | tup ys => rw [py, py, PyData.eqv, eqv]; exact py_eqvL n xs ys ha hb
      | und => cases hb
      | dct => cases hb
      | _ => simp [py, PyData.eqv, eqv]
    | lst xs =>
      cases b with
      | lst ys => rw [py, py, PyData.eqv, eqv]; exact py_eqvL n xs ys ha hb
      | und => cases hb
      | dct => cases hb
      | _ => simp [py, PyData.eqv, eqv]
    | _ =>
      cases b with
      | und => cases hb
      | dct => cases hb
      | _ => simp [py, PyData.eqv, eqv, Bool.beq_eq_decide_eq]
theorem py_eqvL : ∀ (n : Nat) (xs ys : List D), xs.all (fit n) = true → ys.all (fit n) = true → PyData.eqvAll (pyL xs) (pyL ys) = eqvL xs ys
  | n, [], [], _, _ => by simp [pyL, PyData.eqvAll, eqvL]
  | n, [], y :: ys, _, _ => by simp [pyL, PyData.eqvAll, eqvL]
  | n, x :: xs, [], _, _ => by simp [pyL, PyData.eqvAll, eqvL]
  | n, x :: xs, y :: ys, hx, hy => by
    obtain ⟨h1, h2⟩ := fitL_cons hx
    obtain ⟨k1, k2⟩ := fitL_cons hy
    simp only [pyL, PyData.eqvAll, eqvL]
    rw [py_eqv n x y h1 k1, py_eqvL n xs ys h2 k2]
end
mutual
theorem py_alk : ∀ (n : Nat) (a b : D), fit n a = true → fit n b = true → PySem.W.alike (py a) (py b) = alk a b
  | 0, _, _, h, _ => by cases h
  | n + 1, a, b, ha, hb => by
    cases a with
    | und => cases ha
    | dct => cases ha
    | tup xs =>
      cases b with
      | tup ys => rw [py, py, PySem.W.alike, alk]; exact py_alkL n xs ys ha hb
      | und => cases hb
      | dct => cases hb
      | _ => simp [py, PySem.W.alike, alk]
    | lst xs =>
      cases b with
      | lst ys => rw [py, py, PySem.W.alike, alk]; exact py_alkL n xs ys ha hb
      | und => cases hb
      | dct => cases hb
      | _ => simp [py, PySem.W.alike, alk]
    | _ =>
      cases b with
      | und => cases hb
      | dct => cases hb
      | _ => simp [py, PySem.W.alike, alk]
theorem py_alkL : ∀ (n : Nat) (xs ys : List D), xs.all (fit n) = true → ys.all (fit n) = true → PySem.W.alikeAll (pyL xs) (pyL ys) = alkL xs ys
  | n, [], ys, _, _ => by cases ys <;> simp [pyL, PySem.W.alikeAll, alkL]
  | n, x :: xs, [], _, _ => by simp [pyL, PySem.W.alikeAll, alkL]
  | n, x :: xs, y :: ys, hx, hy => by
    obtain ⟨h1, h2⟩ := fitL_cons hx
    obtain ⟨k1, k2⟩ := fitL_cons hy
    simp only [pyL, PySem.W.alikeAll, alkL]
    rw [py_alk n x y h1 k1, py_alkL n xs ys h2 k2]
end
mutual
theorem py_lt : ∀ (n : Nat) (a b : D), fit n a = true → fit n b = true → alk a b = true → PySem.W.dataLt (py a) (py b) = lt a b
  | 0, _, _, h, _, _ => by cases h
  | n + 1, a, b, ha, hb, al => by
    cases a with
    | und => cases ha
    | dct => cases ha
    | tup xs =>
      cases b with
      | tup ys =>
        rw [py, py, PySem.W.dataLt_tuple, lt]
        exact py_ltL n xs ys ha hb (by simpa [alk] using al)
      | _ => simp [alk] at al
    | lst xs =>
      cases b with
      | lst ys =>
        rw [py, py, PySem.W.dataLt_list, lt]
        exact py_ltL n xs ys ha hb (by simpa [alk] using al)
      | _ => simp [alk] at al
    | non =>
      cases b with
      | non => simp [py, lt, PySem.W.dataLt, PySem.W.keyToks, PyProof.Rows.lexLt]
      | _ => simp [alk] at al
    | bl x =>
      cases b with
      | bl y =>
        rw [py, py, PySem.W.dataLt_bool, lt]
        cases x <;> cases y <;> rfl
      | _ => simp [alk] at al
    | int x =>
      cases b with
      | int y => rw [py, py, PySem.W.dataLt_int, lt]
      | _ => simp [alk] at al
    | str x =>
      cases b with
      | str y => rw [py, py, PySem.W.dataLt_str, lt]
      | _ => simp [alk] at al
theorem py_ltL : ∀ (n : Nat) (xs ys : List D), xs.all (fit n) = true → ys.all (fit n) = true → alkL xs ys = true → PySem.W.rowLt (pyL xs) (pyL ys) = ltL xs ys
  | n, [], [], _, _, _ => by simp [pyL, ltL, PySem.W.rowLt, PySem.W.keyToksAll]; first | rfl | decide
  | n, [], y :: ys, _, _, _ => by
    simp only [pyL, ltL, PySem.W.rowLt, PySem.W.keyToksAll]
    rw [PySem.W.lex_atom (by simp)]
    first | rfl | decide
  | n, x :: xs, [], _, _, _ => by
    simp only [pyL, ltL, PySem.W.rowLt, PySem.W.keyToksAll]
    rw [PySem.W.lex_atom (by simp)]
    first | rfl | decide
  | n, x :: xs, y :: ys, hx, hy, al => by
    obtain ⟨h1, h2⟩ := fitL_cons hx
    obtain ⟨k1, k2⟩ := fitL_cons hy
    simp only [alkL, Bool.and_eq_true] at al
    have e := PySem.W.dataLt_cons (x := py x) (y := py y) (by rw [py_alk n x y h1 k1]; exact al.1) (pyL xs) (pyL ys)
    have e2 := py_ltL n xs ys h2 k2 al.2
    unfold PySem.W.rowLt at e2 ⊢
    simp only [pyL, ltL]
    rw [e, py_eqv n x y h1 k1, e2, py_lt n x y h1 k1 al.1]
end
end D
end VS

set_option Elab.async false
set_option linter.all false
set_option maxRecDepth 100000
/-! Rules of operations by data. -/
namespace VS
open PySem PySem.Spec PyProof.Rows L2
section
variable {G : Wd} {P P' : Addr → Prop} {H H' : Hp} {σ : L2.St} {ρ : List D} {κ : List Nat} {Fs : Nat → List Addr} {o oa ob oc : Od} {v : V} {d : D} {F : List Addr} {k : Nat}
theorem OdAt.np (R : Rep G P H σ ρ κ Fs) (h : OdAt G P H σ Fs o v d F) : ∀ a ∈ F, ¬ P a := fun a m => by
  have h2 := h.2
  cases ha : o.al with
  | some i => rw [ha] at h2; obtain ⟨rfl, _⟩ := h2; exact R.np i a m
  | none => rw [ha] at h2; exact (h2 a m).1
/-- an operand read -/
theorem OdAt.view (R : Rep G P H σ ρ κ Fs) (h : OdAt G P H σ Fs o v d F) : Den G (fun a => P a ∨ a ∈ F) H v d := h.1.view (h.np R)
theorem Den.wide (h : Den G P H v d) (hp : ∀ a, P a → P' a) : Den G P' H v d := Den.rec (motive_1 := fun v d _ => Den G P' H v d) (motive_2 := fun vs ds _ => DenL G P' H vs ds)
  .non .bl .int .str (fun h _ r => .tup h r) (fun h _ r => .lst (h.imp (fun z => ⟨hp _ z.1, z.2⟩) id) r) (fun p h k _ _ r q => .dct (hp _ p) h k r q) .nil (fun _ _ r q => .cons r q) h
mutual
theorem Den.dp : ∀ {n : Nat} {v : V} {d : D}, d.fit n = true → Den G P H v d → Dp G.K H v d.py
  | 0, _, _, h, _ => by cases h
  | n + 1, _, _, _, .non => by rw [D.py]; exact .non
  | n + 1, _, _, _, .bl b => by rw [D.py]; exact .bl b
  | n + 1, _, _, _, .int i => by rw [D.py]; exact .int i
  | n + 1, _, _, _, .str x => by rw [D.py]; exact .str x
  | n + 1, _, _, h, .tup e r => by rw [D.py]; exact .tup (.inl (.inl e)) (DenL.dp (n := n) h r)
  | n + 1, _, _, h, .lst e r => by rw [D.py]; exact .lst e.sq (DenL.dp (n := n) h r)
  | n + 1, _, _, h, .dct .. => by cases h
theorem DenL.dp : ∀ {n : Nat} {vs : List V} {ds : List D}, ds.all (D.fit n) = true → DenL G P H vs ds → DpAll G.K H vs (D.pyL ds)
  | _, _, _, _, .nil => by rw [D.pyL]; exact .nil
  | n, _, _, h, .cons e r => by
    obtain ⟨h1, h2⟩ := D.fitL_cons h
    rw [D.pyL]
    exact .cons (Den.dp h1 e) (DenL.dp h2 r)
end
theorem OwnK.kids {ds : List D} (h : OwnK G P H k v (.lst ds) F) (hk : k ≤ 1) : ∃ a vs, v = .ref a ∧ SqL G.K H a vs ∧ DenL G P H vs ds := by
  cases k with
  | zero =>
    cases h.1 with
    | lst e r => exact ⟨_, _, rfl, e.sq, r⟩
  | succ k =>
    have : k = 0 := by omega
    subst this
    obtain ⟨a, vs, e, h1, h2, _⟩ := h.of1
    exact ⟨a, vs, e, .inl (.inl h1), h2⟩
theorem OwnK.tupI {ds : List D} (h : OwnK G P H k v (.tup ds) F) : ∃ a vs, v = .ref a ∧ SqT G.K H a vs ∧ DenL G P H vs ds := by
  cases (h.of_flat rfl).1 with
  | tup e r => exact ⟨_, _, rfl, .inl (.inl e), r⟩
theorem OwnK.strI {x : Str} (h : OwnK G P H k v (.str x) F) : v = .str x := by
  cases (h.of_flat rfl).1
  rfl
theorem OwnK.nonI (h : OwnK G P H k v .non F) : v = .non := by
  cases (h.of_flat rfl).1
  rfl
theorem keep_upd {p : Addr} {u : HO} (hp : H p = none) : ∀ a o, H a = some o → upd H p u a = some o := fun a o e => by
  rw [upd_ne (ne_of_none e hp)]
  exact e
theorem mk_lst {p : Addr} {xs : List V} {ds : List D} (hp : H p = none) (h : DenL G P H xs ds) : OwnK G P (upd H p (.lst xs)) 1 (.ref p) (.lst ds) [p] := OwnK.lst1 upd_same (h.ext (Ext.new (keep_upd hp)))
theorem mk_tup {p : Addr} {xs : List V} {ds : List D} (hp : H p = none) (h : DenL G P H xs ds) : OwnK G P (upd H p (.tup xs)) k (.ref p) (.tup ds) [] := OwnK.flat (F := []) (.tup upd_same (h.ext (Ext.new (keep_upd hp)))) rfl
/-- a flat end -/
theorem fin_flat {Q : VK} {S : List Addr} (q : ∀ v H' F, OwnK G P H' k v d F → F.Nodup → (∀ a ∈ F, H a = none ∨ a ∈ S) → (∀ a o, H a = some o → H' a = some o) → Q v H') (hd : Den G P H v d) (hf : d.flat = true) : Q v H :=
  q v H [] (OwnK.flat (F := []) hd hf) List.nodup_nil (fun a m => by cases m) fun _ _ z => z
theorem fin_lst {Q : VK} {S : List Addr} {p : Addr} {xs : List V} {ds : List D} (q : ∀ v H' F, OwnK G P H' 1 v (.lst ds) F → F.Nodup → (∀ a ∈ F, H a = none ∨ a ∈ S) → (∀ a o, H a = some o → H' a = some o) → Q v H') (hp : H p = none) (h : DenL G P H xs ds) : Q (.ref p) (upd H p (.lst xs)) :=
  q _ _ [p] (mk_lst hp h) (by simp) (fun a m => by rw [List.mem_singleton] at m; subst m; exact .inl hp) (keep_upd hp)
theorem fin_tup {Q : VK} {S : List Addr} {p : Addr} {xs : List V} {ds : List D} (q : ∀ v H' F, OwnK G P H' k v (.tup ds) F → F.Nodup → (∀ a ∈ F, H a = none ∨ a ∈ S) → (∀ a o, H a = some o → H' a = some o) → Q v H') (hp : H p = none) (h : DenL G P H xs ds) : Q (.ref p) (upd H p (.tup xs)) :=
  q _ _ [] (mk_tup hp h) List.nodup_nil (fun a m => by cases m) (keep_upd hp)
/-! ### ints -/
def i2 (c : Int → Int → Bool) (f : Int → Int → D) : List D → Option D
  | [.int i, .int j] => if c i j = true then some (f i j) else none
  | _ => none
theorem O_i2 {C : Int → Int → Prop} {c : Int → Int → Bool} {f : Int → Int → D} {gv : Int → Int → V} (hc : ∀ i j, c i j = true → C i j) (hf : ∀ i j P H, Den G P H (gv i j) (f i j)) (hl : ∀ i j, (f i j).flat = true) : OpS G [oa, ob] k (i2 c f) (r2 (rI C gv)) := by
  intro κ P H σ ρ Fs vs ds Gs d Q R qd nd e q
  cases qd with | cons r1 qd => cases qd with | cons r2 qd =>
  cases qd
  unfold i2 at e
  split at e
  · rename_i i j heq
    cases heq
    split at e
    · rename_i h
      cases e
      exact ⟨i, j, int_own r1.1, int_own r2.1, hc i j h, fin_flat q (hf i j P H) (hl i j)⟩
    · cases e
  · cases e
theorem O_i0 {f : Int → Int → D} {gv : Int → Int → V} (hf : ∀ i j P H, Den G P H (gv i j) (f i j)) (hl : ∀ i j, (f i j).flat = true) : OpS G [oa, ob] k (i2 (fun _ _ => true) f) (r2 (rI0 gv)) := by
  intro κ P H σ ρ Fs vs ds Gs d Q R qd nd e q
  cases qd with | cons r1 qd => cases qd with | cons r2 qd =>
  cases qd
  unfold i2 at e
  split at e
  · rename_i i j heq
    cases heq
    rw [if_pos rfl] at e
    cases e
    exact ⟨i, j, int_own r1.1, int_own r2.1, fin_flat q (hf i j P H) (hl i j)⟩
  · cases e
def subD := i2 (fun _ _ => true) fun i j => .int (i - j)
def ltD := i2 (fun _ _ => true) fun i j => .bl (decide (i < j))
def leD := i2 (fun _ _ => true) fun i j => .bl (decide (i ≤ j))
def gtD := i2 (fun _ _ => true) fun i j => .bl (decide (j < i))
def geD := i2 (fun _ _ => true) fun i j => .bl (decide (j ≤ i))
def fdivD := i2 (fun i j => decide (0 < j ∧ (j < 1073741824 ∨ j.natAbs.log2 < 9000))) fun i j => .int (i / j)
def modD := i2 (fun _ j => decide (0 < j)) fun i j => .int (i % j)
def powD := i2 (fun i j => decide (0 ≤ j ∧ j ≤ 1000000 ∧ i.natAbs < 2 ^ 64)) fun i j => .int (i ^ j.toNat)
theorem O_sub : OpS G [oa, ob] k subD (r2 (rI0 fun i j => .int (i - j))) := O_i0 (fun _ _ _ _ => .int _) fun _ _ => rfl
theorem O_lt : OpS G [oa, ob] k ltD (r2 (rI0 fun i j => .bl (decide (i < j)))) := O_i0 (fun _ _ _ _ => .bl _) fun _ _ => rfl
theorem O_le : OpS G [oa, ob] k leD (r2 (rI0 fun i j => .bl (decide (i ≤ j)))) := O_i0 (fun _ _ _ _ => .bl _) fun _ _ => rfl
theorem O_gt : OpS G [oa, ob] k gtD (r2 (rI0 fun i j => .bl (decide (j < i)))) := O_i0 (fun _ _ _ _ => .bl _) fun _ _ => rfl
theorem O_ge : OpS G [oa, ob] k geD (r2 (rI0 fun i j => .bl (decide (j ≤ i)))) := O_i0 (fun _ _ _ _ => .bl _) fun _ _ => rfl
theorem op_fdivA {X : Cx} : OpR X (binaryOp .FloorDiv) (rI (fun i j => 0 < j ∧ (j < 1073741824 ∨ j.natAbs.log2 < 9000)) fun i j => .int (i / j)) := by
  intro pins s σ H x y v u Q I rx ry ⟨i, j, e1, e2, ⟨h, c⟩, q⟩
  rcases c with c | c
  · exact op_fdiv pins s σ H x y v u Q I rx ry ⟨i, j, e1, e2, ⟨h, c⟩, q⟩
  · exact op_fdivW pins s σ H x y v u Q I rx ry ⟨i, j, e1, e2, ⟨h, c⟩, q⟩
theorem O_fdiv : OpS G [oa, ob] k fdivD (r2 (rI (fun i j => 0 < j ∧ (j < 1073741824 ∨ j.natAbs.log2 < 9000)) fun i j => .int (i / j))) := O_i2 (fun _ _ h => of_decide_eq_true h) (fun _ _ _ _ => .int _) fun _ _ => rfl
theorem O_mod : OpS G [oa, ob] k modD (r2 (rI (fun _ j => 0 < j) fun i j => .int (i % j))) := O_i2 (fun _ _ h => of_decide_eq_true h) (fun _ _ _ _ => .int _) fun _ _ => rfl
theorem O_pow : OpS G [oa, ob] k powD (r2 (rI CPow fun i j => .int (i ^ j.toNat))) := O_i2 (C := CPow) (fun i j h => show 0 ≤ j ∧ j ≤ 1000000 ∧ i.natAbs < 2 ^ 64 from of_decide_eq_true h) (fun _ _ _ _ => .int _) fun _ _ => rfl
def negD : List D → Option D
  | [.int i] => some (.int (-i))
  | _ => none
theorem O_neg : OpS G [oa] k negD (r1v (rU fun i => .int (-i))) := by
  intro κ P H σ ρ Fs vs ds Gs d Q R qd nd e q
  cases qd with | cons r1 qd =>
  cases qd
  unfold negD at e
  split at e
  · rename_i i heq
    cases heq
    cases e
    exact ⟨i, int_own r1.1, fin_flat q (.int _) rfl⟩
  · cases e
/-! ### a + b -/
def rCatL (K : PySem.W.Frag) : R2 := fun x y H Q => ∃ l b xs zs, x = .ref l ∧ y = .ref b ∧ SqL K H l xs ∧ SqL K H b zs ∧ xs.length + zs.length ≤ sizeLine ∧ ∀ p, H p = none → Q (.ref p) (upd H p (.lst (xs ++ zs)))
theorem op_catL {X : Cx} : OpR X (binaryOp .Add) (rCatL X.K) := by
  intro pins s σ H x y v u Q I rx ry ⟨l, b, xs, zs, e1, e2, hx, hy, hz, q⟩
  subst e1 e2
  cases rx
  cases ry
  obtain ⟨its, r, ⟨⟨c1, d1, t1, s1⟩, n1, h1, h2, _, h3⟩, _⟩ := I.list hx
  obtain ⟨its2, r2, ⟨⟨c2, d2, t2, s2⟩, n2, k1, k2, _, k3⟩, _⟩ := I.list hy
  simp only at h2 h3 k2 k3
  subst h2 h3 k2 k3
  have l1 := r.length
  have l2 := r2.length
  refine concat_meets ⟨_, h1, rfl⟩ ⟨_, k1, rfl⟩ noFill_list_add seq_list_add PySem.F.slot_list_add PySem.F.entry_list_add (PySem.F.args_list_add_2 _ _) (list_addW l b its.toArray its2.toArray n1 n2 d1 d2 s1 s2 (by simp only [List.size_toArray]; omega)) ⟨h1, k1, ?_⟩
  rw [List.append_toArray]
  exact ⟨.ref _, _, I.lnew (t' := s.toks) (r.append r2) (by rw [List.length_append]; omega), rfl, q _ I.fresh⟩
def rAdd (K : PySem.W.Frag) : R2 := fun x y H Q => rI0 (fun i j => .int (i + j)) x y H Q ∨ rCatL K x y H Q ∨ rCatA K x y H Q ∨ ∃ i j, x = .str i ∧ y = .str j ∧ i.length + j.length ≤ sizeLine ∧ Q (.str (i ++ j)) H
theorem op_addA {X : Cx} : OpR X (binaryOp .Add) (rAdd X.K) := by
  intro pins s σ H x y v u Q I rx ry h
  rcases h with h | h | h | h
  · exact op_add pins s σ H x y v u Q I rx ry h
  · exact op_catL pins s σ H x y v u Q I rx ry h
  · exact op_catA pins s σ H x y v u Q I rx ry h
  · exact op_add_str pins s σ H x y v u Q I rx ry h
def addD : List D → Option D
  | [.int i, .int j] => some (.int (i + j))
  | [.lst xs, .lst ys] => if xs.length + ys.length ≤ sizeLine then some (.lst (xs ++ ys)) else none
  | [.tup xs, .tup ys] => if xs.length + ys.length ≤ sizeLine then some (.tup (xs ++ ys)) else none
  | [.str x, .str y] => if x.length + y.length ≤ sizeLine then some (.str (x ++ y)) else none
  | _ => none
theorem O_add (ha : oa.k ≤ 1) (hb : ob.k ≤ 1) : OpS G [oa, ob] 1 addD (r2 (rAdd G.K)) := by
  intro κ P H σ ρ Fs vs ds Gs d Q R qd nd e q
  cases qd with | cons r1 qd => cases qd with | cons r2 qd =>
  cases qd
  unfold addD at e
  split at e
  · rename_i i j heq
    cases heq
    cases e
    exact .inl ⟨i, j, int_own r1.1, int_own r2.1, fin_flat q (.int _) rfl⟩
  · rename_i xs ys heq
    cases heq
    split at e
    · rename_i hz
      cases e
      obtain ⟨a, vs, rfl, a1, a2⟩ := r1.1.kids ha
      obtain ⟨b, ws, rfl, b1, b2⟩ := r2.1.kids hb
      exact .inr (.inl ⟨a, b, vs, ws, rfl, rfl, a1, b1, by rw [a2.length, b2.length]; exact hz, fun p hp => fin_lst q hp (a2.append b2)⟩)
    · cases e
  · rename_i xs ys heq
    cases heq
    split at e
    · rename_i hz
      cases e
      obtain ⟨a, vs, rfl, a1, a2⟩ := r1.1.tupI
      obtain ⟨b, ws, rfl, b1, b2⟩ := r2.1.tupI
      refine .inr (.inr (.inl ⟨a, b, vs, ws, rfl, rfl, a1, b1, by rw [a2.length, b2.length]; exact hz, fun h => ?_, fun h1 h2 => ?_, fun _ _ p hp => fin_tup q hp (a2.append b2)⟩))
      · subst h
        cases a2
        exact fin_flat q (r2.1.of_flat rfl).1 rfl
      · subst h2
        cases b2
        refine fin_flat q ?_ rfl
        rw [List.append_nil]
        exact (r1.1.of_flat rfl).1
    · cases e
  · rename_i x y heq
    cases heq
    split at e
    · rename_i hz
      cases e
      exact .inr (.inr (.inr ⟨x, y, r1.1.strI, r2.1.strI, hz, fin_flat q (.str _) rfl⟩))
    · cases e
  · cases e
end
end VS

set_option Elab.async false
set_option linter.all false
set_option maxRecDepth 100000
set_option maxHeartbeats 1000000
/-! Rules of operations by data, two. -/
namespace VS
open PySem PySem.Spec PyProof.Rows L2
/-! ### what the layer lacks: tuple * 0, tuple * 1, sum(tuple) -/
theorem tuple_mulSame (l : Addr) (items : Array Value) (n : Nat) (dd : Option Addr) (sl : Array (Option Value)) (x : Int) (u : Tok) (c0 : (decide (x < -(2 ^ 63)) || decide (x ≥ 2 ^ 63)) = false) (c1 : (items.isEmpty || x == 1) = true) :
    Meets (Builtin.«tuple.__mul__» ⟨[.ref l, .int x u], []⟩) (fun _ R s => s.heap.get? l = some { cls := .type "tuple", dict := dd, data := .seq items n, slots := sl } ∧ R (.ok (.ret (.ref l))) s) :=
  .of_wp fun prog w A R s h => by
    obtain ⟨hp, g, d, tk, os⟩ := s
    obtain ⟨hl, h⟩ := h
    have f1 := AutoSeq1.idx_int
    wp_walk using wpAny_loadPart' hl
    repeat (first
      | (refine wpAny_ite_false (decide_eq_false (by rw [c0]; exact Bool.false_ne_true)) ?_; wp_walk using wpAny_loadPart' hl)
      | (refine wpAny_ite_true (decide_eq_true (by rw [c1])) ?_; wp_walk using wpAny_loadPart' hl))
    exact ⟨_, rfl, h⟩
theorem tuple_mulNone (l : Addr) (items : Array Value) (n : Nat) (dd : Option Addr) (sl : Array (Option Value)) (x : Int) (u : Tok) (c0 : (decide (x < -(2 ^ 63)) || decide (x ≥ 2 ^ 63)) = false) (c1 : (items.isEmpty || x == 1) = false) (c2 : (decide (x ≤ 0) || items.isEmpty) = true) :
    Meets (Builtin.«tuple.__mul__» ⟨[.ref l, .int x u], []⟩) (fun _ R s => s.heap.get? l = some { cls := .type "tuple", dict := dd, data := .seq items n, slots := sl } ∧
      R (.ok (.ret (.ref s.heap.objs.size))) { s with heap := s.heap.push { cls := .type "tuple", data := .seq #[] } }) :=
  .of_wp fun prog w A R s h => by
    obtain ⟨hp, g, d, tk, os⟩ := s
    obtain ⟨hl, h⟩ := h
    have f1 := AutoSeq1.idx_int
    wp_walk using wpAny_loadPart' hl
    repeat (first
      | (refine wpAny_ite_false (decide_eq_false (by rw [c0]; exact Bool.false_ne_true)) ?_; wp_walk using wpAny_loadPart' hl)
      | (refine wpAny_ite_false (decide_eq_false (by rw [c1]; exact Bool.false_ne_true)) ?_; wp_walk using wpAny_loadPart' hl)
      | (refine wpAny_ite_true (decide_eq_true (by rw [c2])) ?_; wp_walk using wpAny_loadPart' hl))
    exact ⟨_, rfl, h⟩
def rRepA (K : PySem.W.Frag) : R2 := fun x y H Q => ∃ l k xs, x = .ref l ∧ y = .int k ∧ SqT K H l xs ∧ -1000000 ≤ k ∧ k ≤ 1000 ∧ xs.length ≤ 1000 ∧
  (xs = [] ∨ k = 1 → Q (.ref l) H) ∧ (xs ≠ [] → k ≤ 0 → ∀ p, H p = none → Q (.ref p) (upd H p (.tup []))) ∧ (xs ≠ [] → 2 ≤ k → ∀ p, H p = none → Q (.ref p) (upd H p (.tup (List.replicate k.toNat xs).flatten)))
theorem op_repA {X : Cx} : OpR X (binaryOp .Mult) (rRepA X.K) := by
  intro pins s σ H x y v u Q I rx ry ⟨l, k, xs, e1, e2, hT, b1, b2, hz, q0, q1, q2⟩
  subst e1 e2
  by_cases h2 : xs ≠ [] ∧ 2 ≤ k
  · exact op_repT pins s σ H _ _ v u Q I rx ry ⟨l, k, xs, rfl, rfl, hT, h2.1, h2.2, b2, hz, q2 h2.1 h2.2⟩
  · cases rx
    obtain ⟨t, rfl⟩ := ry
    obtain ⟨its, r, ⟨⟨cls, dd, data, sl⟩, ho, hc, n, hd⟩, hs⟩ := I.tuple hT
    simp only at hc hd
    subst hc hd
    have hle : its.length = xs.length := r.length.symm
    have c0 : (decide (k < -(2 ^ 63)) || decide (k ≥ 2 ^ 63)) = false := by
      rw [decide_eq_false (by omega), decide_eq_false (by omega)]
      rfl
    by_cases h0 : xs = [] ∨ k = 1
    · have c1 : (its.toArray.isEmpty || k == 1) = true := by
        rcases h0 with rfl | rfl
        · have : its = [] := List.eq_nil_of_length_eq_zero (by simpa using hle)
          subst this
          rfl
        · simp
      exact wpAny_binaryOp_repeat_ref (T := "tuple") (U := "int") (by decide) ⟨_, ho, rfl⟩ (fun s' => typeIs_int s' k t) noFill_tuple_mul F.fills_int_mul F.slot_int_rmul repeat_tuple F.slot_int_index.lookup
        (call_meets F.slot_int_rmul (typeIs_int s k t) F.entry_int_rmul (F.args_int_rmul_2 _ _) (int_rmul_tuple k t l its.toArray n dd sl)
          ⟨ho, rfl, ⟨_, ho, rfl⟩, call_meets F.slot_tuple_mul ⟨_, ho, rfl⟩ F.entry_tuple_mul (F.args_tuple_mul_2 _ _) (tuple_mulSame l its.toArray n dd sl k t c0 c1) ⟨ho, .ref l, H, I, rfl, q0 h0⟩⟩)
    · have hx : xs ≠ [] := fun e => h0 (.inl e)
      have hk : k ≤ 0 := by
        by_cases c : 2 ≤ k
        · exact absurd ⟨hx, c⟩ h2
        · have : k ≠ 1 := fun e => h0 (.inr e)
          omega
      have hi : its.toArray.isEmpty = false := by
        cases its with
        | nil => exact absurd (List.eq_nil_of_length_eq_zero (by simpa using hle.symm)) hx
        | cons a b => rfl
      have c1 : (its.toArray.isEmpty || k == 1) = false := by
        rw [hi, Bool.false_or]
        exact beq_eq_false_iff_ne.mpr (by omega)
      have c2 : (decide (k ≤ 0) || its.toArray.isEmpty) = true := by
        rw [decide_eq_true hk]
        rfl
      refine wpAny_binaryOp_repeat_ref (T := "tuple") (U := "int") (by decide) ⟨_, ho, rfl⟩ (fun s' => typeIs_int s' k t) noFill_tuple_mul F.fills_int_mul F.slot_int_rmul repeat_tuple F.slot_int_index.lookup
        (call_meets F.slot_int_rmul (typeIs_int s k t) F.entry_int_rmul (F.args_int_rmul_2 _ _) (int_rmul_tuple k t l its.toArray n dd sl)
          ⟨ho, rfl, ⟨_, ho, rfl⟩, call_meets F.slot_tuple_mul ⟨_, ho, rfl⟩ F.entry_tuple_mul (F.args_tuple_mul_2 _ _) (tuple_mulNone l its.toArray n dd sl k t c0 c1 c2) ⟨ho, ?_⟩⟩)
      exact ⟨.ref s.heap.objs.size, _, I.laid (t' := s.toks) (o := .tup []) (fun b ob q => Heap.get?_push_of_some _ q) (Nat.le_refl _) ⟨Nat.zero_le _, [], .nil, IsTup.new _ _⟩, rfl, q1 hx hk _ (I.hok.fresh (Nat.le_refl _))⟩
theorem sum_tupRaw {prog : Program} {w : World} {A : Around} {E : Value → Shared → Prop} {s : Shared} {l : Addr} {its : List Value} {ns : List Int} {Q : Value → Shared → Prop} (hh : A.handled = none) (hl : s.heap.IsTuple l its.toArray) (hi : IntsAre its ns)
    (h : ∀ h' tk t', (∀ b o, s.heap.get? b = some o → h'.get? b = some o) → Q (.int ns.sum t') { s with heap := h', toks := tk }) : wpAny (model prog w) A (call (.builtin "sum") [.ref l]) Q E s := by
  obtain ⟨xs, e⟩ := hi.allInts.items
  have hn : numsOf (intItems xs).toList = ns := by rw [← e]; exact hi.numsOf
  rw [nums_intItems] at hn
  rw [e] at hl
  refine call_sum_walkG (wpAny_pyIter_tuple hl ?_)
  have hlt : l < s.heap.objs.size := let ⟨_, ho, _⟩ := hl; Heap.lt_size ho
  refine ⟨_, _, _, _, _, _, numAt xs, rfl, Walks.tuple (A := A.in1) hh _ l (Nat.ne_of_lt hlt) (intItems xs), ⟨⟨_, Heap.get?_push_size _ rfl, rfl, rfl⟩, hl.at fun o e => Heap.get?_push_of_some _ e⟩, fun b hb => ?_, fun _ _ => intItems_at, fun h' tk t' hk => ?_⟩
  · show b < (s.heap.push _).objs.size
    rw [Heap.size_push]
    rcases (by simpa using hb : b = s.heap.objs.size ∨ b = l) with rfl | rfl
    · exact Nat.lt_succ_self _
    · exact Nat.lt_succ_of_lt hlt
  · have := h h' tk t' fun b o q => hk b o (fun hb => absurd (Heap.lt_size q) ((List.mem_singleton.mp hb) ▸ Nat.lt_irrefl _)) (Heap.get?_push_of_some _ q)
    have e2 : preSum (numAt xs) (intItems xs).size = ns.sum := by
      rw [preSum_eq, List.take_of_length_le (by simp [intItems]), hn]
    rw [e2]
    exact this
def rSumA (K : PySem.W.Frag) : List V → Hp → VK → Prop := fun vs H Q => ∃ (a : Addr) (ns : List Int), vs = [V.ref a] ∧ (SqL K H a (ns.map V.int) ∨ SqT K H a (ns.map V.int)) ∧ Q (.int ns.sum) H
theorem cr_sumA {X : Cx} (hc : X.calm = true) : CallR X (.builtin "sum") (rSumA X.K) := by
  intro pins s σ H vs us Q I r ⟨a, ns, e, hs, q⟩
  subst e
  rcases hs with hs | hs
  · exact cr_sum hc pins s σ H _ us Q I r ⟨a, ns, rfl, hs, q⟩
  · obtain ⟨its, rv, hl, _⟩ := I.tuple hs
    rw [Vals.ref1 r]
    exact sum_tupRaw (I.ok.hd hc) (show s.heap.IsTuple a its.toArray from hl) rv.ints fun h' tk t' hk => ⟨.int _, H, I.kept hk, ⟨_, rfl⟩, q⟩
section
variable {G : Wd} {P P' : Addr → Prop} {H H' : Hp} {σ : L2.St} {ρ : List D} {κ : List Nat} {Fs : Nat → List Addr} {o oa ob oc : Od} {v : V} {d : D} {F : List Addr} {k : Nat}
/-! ### a * b -/
def rMulA (K : PySem.W.Frag) : R2 := fun x y H Q => rI (fun i j => CMul i j ∨ CMulW i j) (fun i j => .int (i * j)) x y H Q ∨ rRepA K x y H Q
theorem op_mulA {X : Cx} : OpR X (binaryOp .Mult) (rMulA X.K) := by
  intro pins s σ H x y v u Q I rx ry h
  rcases h with ⟨i, j, e1, e2, c | c, q⟩ | h
  · exact op_mul pins s σ H x y v u Q I rx ry ⟨i, j, e1, e2, c, q⟩
  · exact op_mulW pins s σ H x y v u Q I rx ry ⟨i, j, e1, e2, c, q⟩
  · exact op_repA pins s σ H x y v u Q I rx ry h
def smI (i : Int) : Bool := decide (-(2 ^ 64) < i ∧ i < 2 ^ 64)
def mulD : List D → Option D
  | [.int i, .int j] => if (smI i || smI j || decide (i.natAbs.log2 + j.natAbs.log2 < 1000000)) = true then some (.int (i * j)) else none
  | [.tup xs, .int k] => if -1000000 ≤ k ∧ k ≤ 1000 ∧ xs.length ≤ 1000 then some (.tup (List.replicate k.toNat xs).flatten) else none
  | _ => none
theorem DenL.rep {vs : List V} {ds : List D} (h : DenL G P H vs ds) : ∀ n : Nat, DenL G P H (List.replicate n vs).flatten (List.replicate n ds).flatten
  | 0 => .nil
  | n + 1 => by
    rw [List.replicate_succ, List.replicate_succ, List.flatten_cons, List.flatten_cons]
    exact h.append (h.rep n)
theorem O_mul : OpS G [oa, ob] k mulD (r2 (rMulA G.K)) := by
  intro κ P H σ ρ Fs vs ds Gs d Q R qd nd e q
  cases qd with | cons r1 qd => cases qd with | cons r2 qd =>
  cases qd
  unfold mulD at e
  split at e
  · rename_i i j heq
    cases heq
    split at e
    · rename_i hc
      cases e
      refine .inl ⟨i, j, int_own r1.1, int_own r2.1, ?_, fin_flat q (.int _) rfl⟩
      simp only [Bool.or_eq_true, smI, decide_eq_true_eq] at hc
      rcases hc with (c | c) | c
      · exact .inl (.inl c)
      · exact .inl (.inr c)
      · exact .inr c
    · cases e
  · rename_i xs kk heq
    cases heq
    split at e
    · rename_i hz
      cases e
      obtain ⟨a, vs, rfl, a1, a2⟩ := r1.1.tupI
      have l := a2.length
      refine .inr ⟨a, kk, vs, rfl, int_own r2.1, a1, hz.1, hz.2.1, by omega, fun h => ?_, fun h1 h2 p hp => ?_, fun h1 h2 p hp => fin_tup q hp (a2.rep _)⟩
      · refine fin_flat q ?_ rfl
        have : (List.replicate kk.toNat xs).flatten = xs := by
          rcases h with rfl | rfl
          · cases a2
            simp
          · simp
        rw [this]
        exact (r1.1.of_flat rfl).1
      · have : kk.toNat = 0 := by omega
        rw [this] at q
        exact fin_tup q hp .nil
    · cases e
  · cases e
/-! ### == and != -/
def D.dep : Nat := 40
def rEqA (G : Wd) : R2 := fun x y H Q => ∃ P a b, Den G P H x a ∧ Den G P H y b ∧ a.fit D.dep = true ∧ b.fit D.dep = true ∧ Q (.bl (a.eqv b)) H
def rNeA (G : Wd) : R2 := fun x y H Q => ∃ P a b, Den G P H x a ∧ Den G P H y b ∧ a.fit D.dep = true ∧ b.fit D.dep = true ∧ Q (.bl (!a.eqv b)) H
theorem op_eqA {X : Cx} (hu : X.A.units + 64 < cLine) : OpR X (compareOp .Eq) (rEqA (gd X)) := by
  intro pins s σ H x y v u Q I rx ry ⟨P, a, b, ha, hb, fa, fb, q⟩
  obtain ⟨as, r1⟩ := Dp.reads I _ x v (ha.dp fa) rx
  obtain ⟨bs, r2⟩ := Dp.reads I _ y u (hb.dp fb) ry
  obtain ⟨p1, d1⟩ := D.py_plain _ a fa
  obtain ⟨p2, d2⟩ := D.py_plain _ b fb
  refine SeqAt.eq_plain r1 r2 p1 p2 (by unfold D.dep at d1; omega) ?_
  rw [D.py_eqv _ a b fa fb]
  exact ⟨.bl _, H, I, rfl, q⟩
theorem op_neA {X : Cx} (hu : X.A.units + 64 < cLine) : OpR X (compareOp .NotEq) (rNeA (gd X)) := by
  intro pins s σ H x y v u Q I rx ry ⟨P, a, b, ha, hb, fa, fb, q⟩
  obtain ⟨as, r1⟩ := Dp.reads I _ x v (ha.dp fa) rx
  obtain ⟨bs, r2⟩ := Dp.reads I _ y u (hb.dp fb) ry
  obtain ⟨p1, d1⟩ := D.py_plain _ a fa
  obtain ⟨p2, d2⟩ := D.py_plain _ b fb
  refine SeqAt.ne_plain r1 r2 p1 p2 (by unfold D.dep at d1; omega) ?_
  rw [D.py_eqv _ a b fa fb]
  exact ⟨.bl _, H, I, rfl, q⟩
def eqD : List D → Option D
  | [a, b] => if (a.fit D.dep && b.fit D.dep) = true then some (.bl (a.eqv b)) else none
  | _ => none
def neD : List D → Option D
  | [a, b] => if (a.fit D.dep && b.fit D.dep) = true then some (.bl (!a.eqv b)) else none
  | _ => none
theorem two_view {Fa Fb : List Addr} {x y : V} {a b : D} (R : Rep G P H σ ρ κ Fs) (r1 : OdAt G P H σ Fs oa x a Fa) (r2 : OdAt G P H σ Fs ob y b Fb) : ∃ P' : Addr → Prop, Den G P' H x a ∧ Den G P' H y b :=
  ⟨fun c => P c ∨ c ∈ Fa ∨ c ∈ Fb, (r1.view R).wide fun c h => h.imp id .inl, (r2.view R).wide fun c h => h.imp id .inr⟩
theorem O_eq : OpS G [oa, ob] k eqD (r2 (rEqA G)) := by
  intro κ P H σ ρ Fs vs ds Gs d Q R qd nd e q
  cases qd with | cons r1 qd => cases qd with | cons r2 qd =>
  cases qd
  simp only [eqD] at e
  split at e
  · rename_i h
    cases e
    rw [Bool.and_eq_true] at h
    obtain ⟨P', v1, v2⟩ := two_view R r1 r2
    exact ⟨P', _, _, v1, v2, h.1, h.2, fin_flat q (.bl _) rfl⟩
  · cases e
theorem O_ne : OpS G [oa, ob] k neD (r2 (rNeA G)) := by
  intro κ P H σ ρ Fs vs ds Gs d Q R qd nd e q
  cases qd with | cons r1 qd => cases qd with | cons r2 qd =>
  cases qd
  simp only [neD] at e
  split at e
  · rename_i h
    cases e
    rw [Bool.and_eq_true] at h
    obtain ⟨P', v1, v2⟩ := two_view R r1 r2
    exact ⟨P', _, _, v1, v2, h.1, h.2, fin_flat q (.bl _) rfl⟩
  · cases e
/-! ### x in xs -/
def memD (x : D) (ys : List D) : Bool := ys.any fun y => y.eqv x
def rInA (G : Wd) (neg : Bool) : R2 := fun x y H Q => ∃ P a b bs, Den G P H x a ∧ Den G P H y b ∧ seqD b = some bs ∧ a.fit D.dep = true ∧ bs.all (D.fit D.dep) = true ∧ Q (.bl (if neg then !memD a bs else memD a bs)) H
theorem any_py (n : Nat) (a : D) (fa : a.fit n = true) : ∀ ys : List D, ys.all (D.fit n) = true → (D.pyL ys).any (fun y => PyData.eqv y a.py) = memD a ys
  | [], _ => by simp [D.pyL, memD]
  | y :: ys, h => by
    obtain ⟨h1, h2⟩ := D.fitL_cons h
    have := any_py n a fa ys h2
    unfold memD at this ⊢
    rw [D.pyL, List.any_cons, List.any_cons, this, D.py_eqv n y a h1 fa]
theorem op_inA {X : Cx} (hu : X.A.units + 64 < cLine) : OpR X (compareOp .In) (rInA (gd X) false) := by
  intro pins s σ H x y v u Q I rx ry ⟨P, a, b, bs, ha, hb, hs, fa, fb, q⟩
  obtain ⟨as, r1⟩ := Dp.reads I _ x v (ha.dp fa) rx
  obtain ⟨p1, d1⟩ := D.py_plain _ a fa
  obtain ⟨p2, d2⟩ := D.py_plainL _ bs fb
  cases b <;> cases hs
  · have fb' : D.fit (D.dep + 1) (.tup bs) = true := fb
    obtain ⟨cs, r2⟩ := Dp.reads I _ y u (hb.dp fb') ry
    rw [D.py] at r2
    refine SeqAt.in_tuple_data r2 r1 p2 p1 (by unfold D.dep at d1; omega) ?_
    rw [any_py _ a fa bs fb]
    exact ⟨.bl _, H, I, rfl, q⟩
  · have fb' : D.fit (D.dep + 1) (.lst bs) = true := fb
    obtain ⟨cs, r2⟩ := Dp.reads I _ y u (hb.dp fb') ry
    rw [D.py] at r2
    refine SeqAt.in_list_data r2 r1 p2 p1 (by unfold D.dep at d1; omega) ?_
    rw [any_py _ a fa bs fb]
    exact ⟨.bl _, H, I, rfl, q⟩
theorem op_notInA {X : Cx} (hu : X.A.units + 64 < cLine) : OpR X (compareOp .NotIn) (rInA (gd X) true) := by
  intro pins s σ H x y v u Q I rx ry ⟨P, a, b, bs, ha, hb, hs, fa, fb, q⟩
  obtain ⟨as, r1⟩ := Dp.reads I _ x v (ha.dp fa) rx
  obtain ⟨p1, d1⟩ := D.py_plain _ a fa
  obtain ⟨p2, d2⟩ := D.py_plainL _ bs fb
  cases b <;> cases hs
  · have fb' : D.fit (D.dep + 1) (.tup bs) = true := fb
    obtain ⟨cs, r2⟩ := Dp.reads I _ y u (hb.dp fb') ry
    rw [D.py] at r2
    refine SeqAt.notIn_tuple_data r2 r1 p2 p1 (by unfold D.dep at d1; omega) ?_
    rw [any_py _ a fa bs fb]
    exact ⟨.bl _, H, I, rfl, q⟩
  · have fb' : D.fit (D.dep + 1) (.lst bs) = true := fb
    obtain ⟨cs, r2⟩ := Dp.reads I _ y u (hb.dp fb') ry
    rw [D.py] at r2
    refine SeqAt.notIn_list_data r2 r1 p2 p1 (by unfold D.dep at d1; omega) ?_
    rw [any_py _ a fa bs fb]
    exact ⟨.bl _, H, I, rfl, q⟩
def inD (neg : Bool) : List D → Option D
  | [a, b] => (seqD b).bind fun bs => if (a.fit D.dep && bs.all (D.fit D.dep)) = true then some (.bl (if neg then !memD a bs else memD a bs)) else none
  | _ => none
theorem O_in {neg : Bool} : OpS G [oa, ob] k (inD neg) (r2 (rInA G neg)) := by
  intro κ P H σ ρ Fs vs ds Gs d Q R qd nd e q
  cases qd with | cons r1 qd => cases qd with | cons r2 qd =>
  cases qd
  simp only [inD] at e
  obtain ⟨bs, e1, e⟩ := Option.bind_eq_some_iff.mp e
  split at e
  · rename_i h
    cases e
    rw [Bool.and_eq_true] at h
    obtain ⟨P', v1, v2⟩ := two_view R r1 r2
    exact ⟨P', _, _, bs, v1, v2, e1, h.1, h.2, fin_flat q (.bl _) rfl⟩
  · cases e
/-! ### is None -/
def isND : List D → Option D
  | [a, .non] => match a with
    | .und => none
    | .non => some (.bl true)
    | _ => some (.bl false)
  | _ => none
def notND : List D → Option D
  | [a, .non] => match a with
    | .und => none
    | .non => some (.bl false)
    | _ => some (.bl true)
  | _ => none
theorem non_iff {a : D} (h : Den G P H v a) : (decide (v = .non)) = (match a with | .non => true | _ => false) := by
  cases h <;> simp
theorem O_isN : OpS G [oa, ob] k isND (r2 fun x y H Q => y = .non ∧ Q (.bl (decide (x = .non))) H) := by
  intro κ P H σ ρ Fs vs ds Gs d Q R qd nd e q
  cases qd with | cons r1 qd => cases qd with | @cons _ _ b _ _ _ _ _ r2 qd =>
  cases qd
  have v1 := r1.view R
  cases b with
  | non =>
    refine ⟨r2.1.nonI, ?_⟩
    rw [non_iff v1]
    rename_i a _ _ _
    cases a <;> first | (cases e; exact fin_flat q (.bl _) rfl) | cases e
  | _ => cases e
theorem O_notN : OpS G [oa, ob] k notND (r2 fun x y H Q => y = .non ∧ Q (.bl (!decide (x = .non))) H) := by
  intro κ P H σ ρ Fs vs ds Gs d Q R qd nd e q
  cases qd with | cons r1 qd => cases qd with | @cons _ _ b _ _ _ _ _ r2 qd =>
  cases qd
  have v1 := r1.view R
  cases b with
  | non =>
    refine ⟨r2.1.nonI, ?_⟩
    rw [non_iff v1]
    rename_i a _ _ _
    cases a <;> first | (cases e; exact fin_flat q (.bl _) rfl) | cases e
  | _ => cases e
end
end VS

set_option Elab.async false
set_option linter.all false
set_option maxRecDepth 100000
set_option maxHeartbeats 1000000
/-! Rules of operations by data, three: reading, copying, sorting. -/
namespace VS
open PySem PySem.Spec PyProof.Rows L2
section
variable {G : Wd} {P P' : Addr → Prop} {H H' : Hp} {σ : L2.St} {ρ : List D} {κ : List Nat} {Fs : Nat → List Addr} {o oa ob oc : Od} {v : V} {d : D} {F : List Addr} {k : Nat}
theorem DenL.atI {vs : List V} {ds : List D} {i : Int} {d : D} (h : DenL G P H vs ds) (e : L2.atI ds i = some d) : ∃ v, L2.atI vs i = some v ∧ Den G P H v d := by
  unfold L2.atI at e ⊢
  rw [h.length]
  obtain ⟨j, e1, e2⟩ := Option.bind_eq_some_iff.mp e
  obtain ⟨v, h1, h2⟩ := h.get e2
  exact ⟨v, by rw [e1]; exact h1, h2⟩
def ixD : List D → Option D
  | [.lst xs, .int i] => atI xs i
  | [.tup xs, .int i] => atI xs i
  | [.str z, .int i] => if z.length ≤ sizeLine then (atI z.cps.toList i).map fun c => .str ⟨#[c]⟩ else none
  | _ => none
theorem O_ix (ha : oa.k ≤ 1) : OpS G [oa, ob] 0 ixD (r2 (rIx G.K)) := by
  intro κ P H σ ρ Fs vs ds Gs d Q R qd nd e q
  cases qd with | cons r1 qd => cases qd with | cons r2 qd =>
  cases qd
  unfold ixD at e
  split at e
  · rename_i xs i heq
    cases heq
    obtain ⟨a, vs, rfl, a1, a2⟩ := r1.1.kids ha
    obtain ⟨w, b1, b2⟩ := a2.atI e
    exact .inl ⟨a, vs, i, w, rfl, int_own r2.1, a1, b1, q w H [] ⟨b2, rfl⟩ List.nodup_nil (fun a m => by cases m) fun _ _ z => z⟩
  · rename_i xs i heq
    cases heq
    obtain ⟨a, vs, rfl, a1, a2⟩ := r1.1.tupI
    obtain ⟨w, b1, b2⟩ := a2.atI e
    exact .inr (.inl ⟨a, vs, i, w, rfl, int_own r2.1, a1, b1, q w H [] ⟨b2, rfl⟩ List.nodup_nil (fun a m => by cases m) fun _ _ z => z⟩)
  · rename_i z i heq
    cases heq
    split at e
    · rename_i hz
      cases hc : atI z.cps.toList i with
      | none => rw [hc] at e; cases e
      | some c =>
        rw [hc] at e
        cases e
        exact .inr (.inr ⟨z, i, c, r1.1.strI, int_own r2.1, hz, hc, fin_flat q (.str _) rfl⟩)
    · cases e
  · cases e
/-! ### slices -/
def cutD (xs : List D) (lo hi : Option Int) : List D := (xs.drop (HT.sIx xs.length 0 lo)).take (HT.sIx xs.length xs.length hi - HT.sIx xs.length 0 lo)
theorem DenL.cut {vs : List V} {ds : List D} (h : DenL G P H vs ds) (lo hi : Option Int) : DenL G P H (cutV vs lo hi) (cutD ds lo hi) := by
  unfold cutV cutD
  rw [h.length]
  exact (h.drop _).take _
def slG (d : D) (lo hi : Option Int) : Option D := match d with
  | .lst xs => some (.lst (cutD xs lo hi))
  | .tup xs => some (.tup (cutD xs lo hi))
  | .str z => if z.length ≤ sizeLine then some (.str (cutS z lo hi)) else none
  | _ => none
def rSlice (K : PySem.W.Frag) : V → Option Int → Option Int → Hp → VK → Prop := fun x lo hi H Q => rSlL K x lo hi H Q ∨ (rSlA K x lo hi H Q ∨ rSlS x lo hi H Q)
theorem sl_any {X : Cx} : SlR X (rSlice X.K) := sl_list.or (sl_tupA.or sl_str)
theorem sl_fin {Q : VK} {S : List Addr} {x : V} {y d : D} {lo hi : Option Int} (ow : OwnK G P H k x y F) (hk : k ≤ 1) (e : slG y lo hi = some d) (q : ∀ v H' F, OwnK G P H' 1 v d F → F.Nodup → (∀ a ∈ F, H a = none ∨ a ∈ S) → (∀ a o, H a = some o → H' a = some o) → Q v H') : rSlice G.K x lo hi H Q := by
  cases y <;> try cases e
  · simp only [slG] at e
    split at e
    · rename_i hz
      cases e
      exact .inr (.inr ⟨_, ow.strI, hz, fin_flat q (.str _) rfl⟩)
    · cases e
  · rename_i xs
    obtain ⟨a, vs, rfl, a1, a2⟩ := ow.tupI
    refine .inr (.inl ⟨a, vs, rfl, a1, fun hw => ?_, fun _ p hp => fin_tup q hp (a2.cut lo hi)⟩)
    refine fin_flat q ?_ rfl
    have : cutD xs lo hi = xs := by
      show (List.drop _ _).take _ = _
      rw [← a2.length, hw.1, hw.2]
      exact (List.take_of_length_le (by simp [a2.length]))
    rw [this]
    exact (ow.of_flat rfl).1
  · obtain ⟨a, vs, rfl, a1, a2⟩ := ow.kids hk
    exact .inl ⟨a, vs, rfl, a1, fun p hp => fin_lst q hp (a2.cut lo hi)⟩
def slLD : List D → Option D
  | [x, .int i] => slG x (some i) none
  | _ => none
def slHD : List D → Option D
  | [x, .int i] => slG x none (some i)
  | _ => none
def slBD : List D → Option D
  | [x, .int i, .int j] => slG x (some i) (some j)
  | _ => none
theorem O_slL (ha : oa.k ≤ 1) : OpS G [oa, ob] 1 slLD (rsL (rSlice G.K)) := by
  intro κ P H σ ρ Fs vs ds Gs d Q R qd nd e q
  cases qd with | cons r1 qd => cases qd with | @cons _ _ b _ _ _ _ _ r2 qd =>
  cases qd
  cases b <;> try cases e
  exact ⟨_, int_own r2.1, sl_fin r1.1 ha e q⟩
theorem O_slH (ha : oa.k ≤ 1) : OpS G [oa, ob] 1 slHD (rsH (rSlice G.K)) := by
  intro κ P H σ ρ Fs vs ds Gs d Q R qd nd e q
  cases qd with | cons r1 qd => cases qd with | @cons _ _ b _ _ _ _ _ r2 qd =>
  cases qd
  cases b <;> try cases e
  exact ⟨_, int_own r2.1, sl_fin r1.1 ha e q⟩
theorem O_slB (ha : oa.k ≤ 1) : OpS G [oa, ob, oc] 1 slBD (rsB (rSlice G.K)) := by
  intro κ P H σ ρ Fs vs ds Gs d Q R qd nd e q
  cases qd with | cons r1 qd => cases qd with | @cons _ _ b _ _ _ _ _ r2 qd => cases qd with | @cons _ _ c _ _ _ _ _ r3 qd =>
  cases qd
  cases b <;> try cases e
  cases c <;> try cases e
  exact ⟨_, int_own r3.1, _, int_own r2.1, sl_fin r1.1 ha e q⟩
/-! ### len, list, tuple, int, sum -/
theorem Tri.len {R : V → D → List Addr → Prop} {vs : List V} {ds : List D} {Gs : List (List Addr)} (t : Tri R vs ds Gs) : vs.length = ds.length := t.length.1
theorem OwnK.lenL {ds : List D} (h : OwnK G P H k v (.lst ds) F) : ∃ a vs, v = .ref a ∧ SqL G.K H a vs ∧ vs.length = ds.length := by
  cases k with
  | zero =>
    obtain ⟨a, vs, e, h1, h2⟩ := h.kids (Nat.zero_le _)
    exact ⟨a, vs, e, h1, h2.length⟩
  | succ k =>
    obtain ⟨a, vs, Gs, e, h1, t, _⟩ := h
    exact ⟨a, vs, e, .inl (.inl h1), t.len⟩
def lenD : List D → Option D
  | [.lst xs] => some (.int xs.length)
  | [.tup xs] => some (.int xs.length)
  | [.str z] => if z.length ≤ sizeLine then some (.int z.length) else none
  | _ => none
theorem O_len : OpS G [oa] k lenD (fun xs H Q => ∃ x n, xs = [x] ∧ LenV G.K x H n ∧ Q (.int n) H) := by
  intro κ P H σ ρ Fs vs ds Gs d Q R qd nd e q
  cases qd with | @cons _ _ a _ _ _ _ _ r1 qd =>
  cases qd
  cases a <;> try cases e
  · simp only [lenD] at e
    split at e
    · rename_i hz
      cases e
      exact ⟨_, _, rfl, by rw [r1.1.strI]; exact ⟨hz, rfl⟩, fin_flat q (.int _) rfl⟩
    · cases e
  · obtain ⟨a, vs, rfl, a1, a2⟩ := r1.1.tupI
    refine ⟨_, _, rfl, .inr ⟨vs, a1, rfl⟩, ?_⟩
    rw [a2.length]
    exact fin_flat q (.int _) rfl
  · obtain ⟨a, vs, rfl, a1, a2⟩ := r1.1.lenL
    refine ⟨_, _, rfl, .inl ⟨vs, a1, rfl⟩, ?_⟩
    rw [a2]
    exact fin_flat q (.int _) rfl
def listD : List D → Option D
  | [.lst xs] => some (.lst xs)
  | [.tup xs] => some (.lst xs)
  | _ => none
theorem O_list (ha : oa.k ≤ 1) : OpS G [oa] 1 listD (fun xs H Q => ∃ p ys, xs = [.ref p] ∧ (SqL G.K H p ys ∨ SqT G.K H p ys) ∧ ∀ l, H l = none → Q (.ref l) (upd H l (.lst ys))) := by
  intro κ P H σ ρ Fs vs ds Gs d Q R qd nd e q
  cases qd with | @cons _ _ a _ _ _ _ _ r1 qd =>
  cases qd
  cases a <;> try cases e
  · obtain ⟨a, vs, rfl, a1, a2⟩ := r1.1.tupI
    exact ⟨a, vs, rfl, .inr a1, fun l hl => fin_lst q hl a2⟩
  · obtain ⟨a, vs, rfl, a1, a2⟩ := r1.1.kids ha
    exact ⟨a, vs, rfl, .inl a1, fun l hl => fin_lst q hl a2⟩
def tupleD : List D → Option D
  | [.lst xs] => some (.tup xs)
  | [.tup xs] => some (.tup xs)
  | _ => none
theorem O_tuple (ha : oa.k ≤ 1) : OpS G [oa] k tupleD (fun xs H Q => ∃ p ys, xs = [.ref p] ∧ ((SqL G.K H p ys ∧ ∀ l, H l = none → Q (.ref l) (upd H l (.tup ys))) ∨ (SqT G.K H p ys ∧ Q (.ref p) H))) := by
  intro κ P H σ ρ Fs vs ds Gs d Q R qd nd e q
  cases qd with | @cons _ _ a _ _ _ _ _ r1 qd =>
  cases qd
  cases a <;> try cases e
  · obtain ⟨a, vs, rfl, a1, a2⟩ := r1.1.tupI
    exact ⟨a, vs, rfl, .inr ⟨a1, fin_flat q (r1.1.of_flat rfl).1 rfl⟩⟩
  · obtain ⟨a, vs, rfl, a1, a2⟩ := r1.1.kids ha
    exact ⟨a, vs, rfl, .inl ⟨a1, fun l hl => fin_tup q hl a2⟩⟩
def intD : List D → Option D
  | [.int i] => some (.int i)
  | [.bl b] => some (.int (if b then 1 else 0))
  | _ => none
theorem O_int : OpS G [oa] k intD (fun xs H Q => (∃ i, xs = [.int i] ∧ Q (.int i) H) ∨ ∃ k, xs = [.bl k] ∧ Q (.int (if k then 1 else 0)) H) := by
  intro κ P H σ ρ Fs vs ds Gs d Q R qd nd e q
  cases qd with | @cons _ _ a _ _ _ _ _ r1 qd =>
  cases qd
  cases a <;> try cases e
  · exact .inr ⟨_, by rw [(bl_own r1.1).1], fin_flat q (.int _) rfl⟩
  · exact .inl ⟨_, by rw [int_own r1.1], fin_flat q (.int _) rfl⟩
def intsD : List D → Option (List Int)
  | [] => some []
  | .int i :: r => (intsD r).map (i :: ·)
  | _ => none
theorem intsD_den : ∀ {vs : List V} {ds : List D} {ns : List Int}, DenL G P H vs ds → intsD ds = some ns → vs = ns.map V.int ∧ ds = ns.map D.int
  | _, _, _, .nil, e => by cases e; exact ⟨rfl, rfl⟩
  | _, d :: ds, ns, .cons h r, e => by
    cases d <;> try cases e
    rename_i i
    simp only [intsD] at e
    cases hr : intsD ds with
    | none => rw [hr] at e; cases e
    | some ms =>
      rw [hr] at e
      cases e
      obtain ⟨a, b⟩ := intsD_den r hr
      cases h
      exact ⟨by rw [a]; rfl, by rw [b]; rfl⟩
def sumD : List D → Option D
  | [x] => (seqD x).bind fun xs => (intsD xs).map fun ns => .int ns.sum
  | _ => none
theorem seq_kids {x : D} {xs : List D} (h : OwnK G P H k v x F) (hk : k ≤ 1) (e : seqD x = some xs) : ∃ a vs, v = .ref a ∧ (SqL G.K H a vs ∨ SqT G.K H a vs) ∧ DenL G P H vs xs := by
  cases x <;> cases e
  · obtain ⟨a, vs, e, a1, a2⟩ := h.tupI
    exact ⟨a, vs, e, .inr a1, a2⟩
  · obtain ⟨a, vs, e, a1, a2⟩ := h.kids hk
    exact ⟨a, vs, e, .inl a1, a2⟩
theorem O_sum (ha : oa.k ≤ 1) : OpS G [oa] k sumD (rSumA G.K) := by
  intro κ P H σ ρ Fs vs ds Gs d Q R qd nd e q
  cases qd with | cons r1 qd =>
  cases qd
  simp only [sumD] at e
  obtain ⟨xs, e1, e⟩ := Option.bind_eq_some_iff.mp e
  obtain ⟨ns, e2, e⟩ := Option.map_eq_some_iff.mp e
  subst e
  obtain ⟨a, vs, rfl, a1, a2⟩ := seq_kids r1.1 ha e1
  obtain ⟨rfl, _⟩ := intsD_den a2 e2
  exact ⟨a, ns, rfl, a1, fin_flat q (.int _) rfl⟩
/-! ### displays -/
def tupD (ds : List D) : Option D := if ds.length ≤ sizeLine then some (.tup ds) else none
def lstD (ds : List D) : Option D := if ds.length ≤ sizeLine then some (.lst ds) else none
/-- operands whose values may be kept -/
abbrev Zero (os : List Od) : Prop := ∀ o ∈ os, o.k = 0
theorem quad_den {os : List Od} (hz : Zero os) : ∀ {vs : List V} {ds : List D} {Gs : List (List Addr)}, Quad (OdAt G P H σ Fs) os vs ds Gs → DenL G P H vs ds := by
  induction os with
  | nil => intro vs ds Gs q; cases q; exact .nil
  | cons o os ih =>
    intro vs ds Gs q
    cases q with
    | cons r q =>
      have h := r.1
      rw [hz o List.mem_cons_self] at h
      exact .cons h.1 (ih (fun p m => hz p (List.mem_cons_of_mem _ m)) q)
theorem O_tup {os : List Od} (hz : Zero os) : OpS G os k tupD rTup := by
  intro κ P H σ ρ Fs vs ds Gs d Q R qd nd e q
  have dn := quad_den hz qd
  unfold tupD at e
  split at e
  · rename_i h
    cases e
    exact ⟨by rw [dn.length]; exact h, fun p hp => fin_tup q hp dn⟩
  · cases e
theorem O_lst {os : List Od} (hz : Zero os) : OpS G os 1 lstD rLst := by
  intro κ P H σ ρ Fs vs ds Gs d Q R qd nd e q
  have dn := quad_den hz qd
  unfold lstD at e
  split at e
  · rename_i h
    cases e
    exact ⟨by rw [dn.length]; exact h, fun p hp => fin_lst q hp dn⟩
  · cases e
/-! ### all, any -/
def blsD : List D → Option (List Bool)
  | [] => some []
  | .bl i :: r => (blsD r).map (i :: ·)
  | _ => none
theorem blsD_den : ∀ {vs : List V} {ds : List D} {ns : List Bool}, DenL G P H vs ds → blsD ds = some ns → vs = ns.map V.bl
  | _, _, _, .nil, e => by cases e; rfl
  | _, d :: ds, ns, .cons h r, e => by
    cases d <;> try cases e
    rename_i i
    simp only [blsD] at e
    cases hr : blsD ds with
    | none => rw [hr] at e; cases e
    | some ms =>
      rw [hr] at e
      cases e
      have a := blsD_den r hr
      cases h
      rw [a]
      rfl
def allD : List D → Option D
  | [.lst xs] => (blsD xs).map fun bs => .bl (bs.all id)
  | _ => none
def anyD : List D → Option D
  | [.lst xs] => (blsD xs).map fun bs => .bl (bs.any id)
  | _ => none
theorem O_all (ha : oa.k ≤ 1) : OpS G [oa] k allD (rAll G.K) := by
  intro κ P H σ ρ Fs vs ds Gs d Q R qd nd e q
  cases qd with | @cons _ _ a _ _ _ _ _ r1 qd =>
  cases qd
  cases a <;> try cases e
  simp only [allD] at e
  obtain ⟨bs, e2, e⟩ := Option.map_eq_some_iff.mp e
  subst e
  obtain ⟨a, vs, rfl, a1, a2⟩ := r1.1.kids ha
  have := blsD_den a2 e2
  subst this
  exact ⟨a, bs, rfl, a1, fin_flat q (.bl _) rfl⟩
theorem O_any (ha : oa.k ≤ 1) : OpS G [oa] k anyD (rAny G.K) := by
  intro κ P H σ ρ Fs vs ds Gs d Q R qd nd e q
  cases qd with | @cons _ _ a _ _ _ _ _ r1 qd =>
  cases qd
  cases a <;> try cases e
  simp only [anyD] at e
  obtain ⟨bs, e2, e⟩ := Option.map_eq_some_iff.mp e
  subst e
  obtain ⟨a, vs, rfl, a1, a2⟩ := r1.1.kids ha
  have := blsD_den a2 e2
  subst this
  exact ⟨a, bs, rfl, a1, fin_flat q (.bl _) rfl⟩
/-! ### min, max, gcd -/
def max2D := i2 (fun _ _ => true) fun i j => .int (if j > i then j else i)
def min2D := i2 (fun _ _ => true) fun i j => .int (if j < i then j else i)
theorem O_two {f : Int → Int → Int} : OpS G [oa, ob] k (i2 (fun _ _ => true) fun i j => .int (f i j)) (fun xs H Q => ∃ i j, xs = [.int i, .int j] ∧ Q (.int (f i j)) H) := by
  intro κ P H σ ρ Fs vs ds Gs d Q R qd nd e q
  cases qd with | @cons _ _ a _ _ _ _ _ r1 qd => cases qd with | @cons _ _ b _ _ _ _ _ r2 qd =>
  cases qd
  cases a <;> try cases e
  cases b <;> try cases e
  exact ⟨_, _, by rw [int_own r1.1, int_own r2.1], fin_flat q (.int _) rfl⟩
theorem O_max2 : OpS G [oa, ob] k max2D (fun xs H Q => ∃ i j, xs = [.int i, .int j] ∧ Q (.int (if j > i then j else i)) H) := O_two
theorem O_min2 : OpS G [oa, ob] k min2D (fun xs H Q => ∃ i j, xs = [.int i, .int j] ∧ Q (.int (if j < i then j else i)) H) := O_two
def gcdD := i2 (fun _ _ => true) fun i j => .int ((Nat.gcd i.natAbs j.natAbs : Nat) : Int)
theorem O_gcd : OpS G [oa, ob] k gcdD rGcd := O_two (f := fun i j => ((Nat.gcd i.natAbs j.natAbs : Nat) : Int))
def maxL : Int → List Int → Int
  | m, [] => m
  | m, n :: ns => maxL (if m < n then n else m) ns
def minL : Int → List Int → Int
  | m, [] => m
  | m, n :: ns => minL (if n < m then n else m) ns
theorem maxL_ok : ∀ (ns : List Int) (m : Int), (maxL m ns = m ∨ maxL m ns ∈ ns) ∧ m ≤ maxL m ns ∧ ∀ y ∈ ns, y ≤ maxL m ns
  | [], m => ⟨.inl rfl, Int.le_refl _, fun y h => by cases h⟩
  | n :: ns, m => by
    obtain ⟨h1, h2, h3⟩ := maxL_ok ns (if m < n then n else m)
    have e : maxL m (n :: ns) = maxL (if m < n then n else m) ns := rfl
    rw [e]
    refine ⟨?_, ?_, fun y hy => ?_⟩
    · rcases h1 with h | h
      · rw [h]
        split
        · exact .inr List.mem_cons_self
        · exact .inl rfl
      · exact .inr (List.mem_cons_of_mem _ h)
    · split at h2 <;> rename_i c <;> simp only [c, if_true, if_false] <;> omega
    · rcases List.mem_cons.mp hy with rfl | hy
      · split at h2 <;> rename_i c <;> simp only [c, if_true, if_false] <;> omega
      · exact h3 y hy
theorem minL_ok : ∀ (ns : List Int) (m : Int), (minL m ns = m ∨ minL m ns ∈ ns) ∧ minL m ns ≤ m ∧ ∀ y ∈ ns, minL m ns ≤ y
  | [], m => ⟨.inl rfl, Int.le_refl _, fun y h => by cases h⟩
  | n :: ns, m => by
    obtain ⟨h1, h2, h3⟩ := minL_ok ns (if n < m then n else m)
    have e : minL m (n :: ns) = minL (if n < m then n else m) ns := rfl
    rw [e]
    refine ⟨?_, ?_, fun y hy => ?_⟩
    · rcases h1 with h | h
      · rw [h]
        split
        · exact .inr List.mem_cons_self
        · exact .inl rfl
      · exact .inr (List.mem_cons_of_mem _ h)
    · split at h2 <;> rename_i c <;> simp only [c, if_true, if_false] <;> omega
    · rcases List.mem_cons.mp hy with rfl | hy
      · split at h2 <;> rename_i c <;> simp only [c, if_true, if_false] <;> omega
      · exact h3 y hy
def maxD : List D → Option D
  | [.lst xs] => (intsD xs).bind fun ns => match ns with
    | n :: ns => some (.int (maxL n ns))
    | [] => none
  | _ => none
def minD : List D → Option D
  | [.lst xs] => (intsD xs).bind fun ns => match ns with
    | n :: ns => some (.int (minL n ns))
    | [] => none
  | _ => none
theorem O_max (ha : oa.k ≤ 1) : OpS G [oa] k maxD (rMax G.K) := by
  intro κ P H σ ρ Fs vs ds Gs d Q R qd nd e q
  cases qd with | @cons _ _ a _ _ _ _ _ r1 qd =>
  cases qd
  cases a <;> try cases e
  simp only [maxD] at e
  obtain ⟨ns, e2, e⟩ := Option.bind_eq_some_iff.mp e
  obtain ⟨a, vs, rfl, a1, a2⟩ := r1.1.kids ha
  obtain ⟨rfl, _⟩ := intsD_den a2 e2
  cases ns with
  | nil => cases e
  | cons n ns =>
    cases e
    refine ⟨a, n :: ns, rfl, a1, Nat.succ_pos _, fun m hm hy => ?_⟩
    obtain ⟨h1, h2, h3⟩ := maxL_ok ns n
    have : m = maxL n ns := by
      have t1 := hy (maxL n ns) (by rcases h1 with h | h; rw [h]; exact List.mem_cons_self; exact List.mem_cons_of_mem _ h)
      have t2 : m ≤ maxL n ns := by
        rcases List.mem_cons.mp hm with rfl | hm
        · exact h2
        · exact h3 m hm
      omega
    rw [this]
    exact fin_flat q (.int _) rfl
theorem O_min (ha : oa.k ≤ 1) : OpS G [oa] k minD (rMin G.K) := by
  intro κ P H σ ρ Fs vs ds Gs d Q R qd nd e q
  cases qd with | @cons _ _ a _ _ _ _ _ r1 qd =>
  cases qd
  cases a <;> try cases e
  simp only [minD] at e
  obtain ⟨ns, e2, e⟩ := Option.bind_eq_some_iff.mp e
  obtain ⟨a, vs, rfl, a1, a2⟩ := r1.1.kids ha
  obtain ⟨rfl, _⟩ := intsD_den a2 e2
  cases ns with
  | nil => cases e
  | cons n ns =>
    cases e
    refine ⟨a, n :: ns, rfl, a1, Nat.succ_pos _, fun m hm hy => ?_⟩
    obtain ⟨h1, h2, h3⟩ := minL_ok ns n
    have : m = minL n ns := by
      have t1 := hy (minL n ns) (by rcases h1 with h | h; rw [h]; exact List.mem_cons_self; exact List.mem_cons_of_mem _ h)
      have t2 : minL n ns ≤ m := by
        rcases List.mem_cons.mp hm with rfl | hm
        · exact h2
        · exact h3 m hm
      omega
    rw [this]
    exact fin_flat q (.int _) rfl
end
end VS

set_option Elab.async false
set_option linter.all false
set_option maxRecDepth 100000
set_option maxHeartbeats 1000000
/-! Rules of operations by data, four: isinstance, sorted, changes in place. -/
namespace VS
open PySem PySem.Spec PyProof.Rows L2
/-! ### the names that are built in -/
theorem vb_isinstance : bootBuiltins "isinstance" = some (.builtin "isinstance") := by decide +kernel
theorem vb_len : bootBuiltins "len" = some (.builtin "len") := by decide +kernel
theorem vb_sorted : bootBuiltins "sorted" = some (.builtin "sorted") := by decide +kernel
theorem vb_sum : bootBuiltins "sum" = some (.builtin "sum") := by decide +kernel
theorem vb_max : bootBuiltins "max" = some (.builtin "max") := by decide +kernel
theorem vb_min : bootBuiltins "min" = some (.builtin "min") := by decide +kernel
theorem vb_all : bootBuiltins "all" = some (.builtin "all") := by decide +kernel
theorem vb_any : bootBuiltins "any" = some (.builtin "any") := by decide +kernel
theorem vb_abs : bootBuiltins "abs" = some (.builtin "abs") := by decide +kernel
theorem vb_int : bootBuiltins "int" = some (.type "int") := by decide +kernel
theorem vb_list : bootBuiltins "list" = some (.type "list") := by decide +kernel
theorem vb_tuple : bootBuiltins "tuple" = some (.type "tuple") := by decide +kernel
theorem vb_str : bootBuiltins "str" = some (.type "str") := by decide +kernel
theorem vb_bool : bootBuiltins "bool" = some (.type "bool") := by decide +kernel
theorem vb_dict : bootBuiltins "dict" = some (.type "dict") := by decide +kernel
theorem vb_set : bootBuiltins "set" = some (.type "set") := by decide +kernel
/-! ### isinstance -/
def tyN : D → Option String
  | .non => some "NoneType"
  | .bl _ => some "bool"
  | .int _ => some "int"
  | .str _ => some "str"
  | .lst _ => some "list"
  | .tup _ => some "tuple"
  | _ => none
def tyA : List String := ["NoneType", "bool", "int", "str", "list", "tuple"]
def tyB : List String := ["list", "tuple", "str", "bool", "int"]
def isiB (a b : String) : Bool := a == b || (a == "bool" && b == "int")
theorem isi_tab : (tyA.all fun a => tyB.all fun b => kitB a b == some (isiB a b)) = true := by decide +kernel
theorem isi_kit {a b : String} (ha : a ∈ tyA) (hb : b ∈ tyB) : kitB a b = some (isiB a b) := by
  have := List.all_eq_true.mp (List.all_eq_true.mp isi_tab a ha) b hb
  exact eq_of_beq this
theorem tyN_mem {d : D} {a : String} (h : tyN d = some a) : a ∈ tyA := by
  cases d <;> cases h <;> decide
section
variable {G : Wd} {P P' : Addr → Prop} {H H' : Hp} {σ : L2.St} {ρ : List D} {κ : List Nat} {Fs : Nat → List Addr} {o oa ob oc : Od} {v : V} {d : D} {F : List Addr} {k : Nat}
theorem Den.tyX {a : String} (h : Den G P H v d) (e : tyN d = some a) : TyX G.K H v (.type a) := by
  cases h <;> cases e
  · exact .base .non
  · exact .base (.bl _)
  · exact .base (.int _)
  · exact .base (.str _)
  · exact .base (.tup ‹_›)
  · rename_i h r
    rcases h with ⟨_, h⟩ | ⟨o, h⟩ | ⟨o, its, n, h1, h2, _⟩
    · exact .base (.lst h)
    · exact .base (.frz h)
    · exact .kList h1 h2
def isiD (b : String) : List D → Option D
  | [d] => (tyN d).map fun a => .bl (isiB a b)
  | _ => none
def rI1 (K : PySem.W.Frag) (b : String) : List V → Hp → VK → Prop
  | [v], H, Q => rIsi K [v, .ty b] H Q
  | _, _, _ => False
theorem O_isi {b : String} (hb : b ∈ tyB) : OpS G [oa] k (isiD b) (rI1 G.K b) := by
  intro κ P H σ ρ Fs vs ds Gs d Q R qd nd e q
  cases qd with | cons r1 qd =>
  cases qd
  obtain ⟨a, e1, e⟩ := Option.map_eq_some_iff.mp e
  subst e
  exact ⟨_, .ty b, .type a, .type b, _, rfl, .ty b, (r1.view R).tyX e1, kit_ty (isi_kit (tyN_mem e1) hb), fin_flat q (.bl _) rfl⟩
def isi2D (b c : String) : List D → Option D
  | [d] => (tyN d).map fun a => .bl (isiB a b || isiB a c)
  | _ => none
def rI2 (K : PySem.W.Frag) (b c : String) : List V → Hp → VK → Prop
  | [v], H, Q => [V.ty b, V.ty c].length ≤ sizeLine ∧ ∀ p, H p = none → rIsiT K [v, .ref p] (upd H p (.tup [.ty b, .ty c])) Q
  | _, _, _ => False
theorem O_isi2 {b c : String} (hb : b ∈ tyB) (hc : c ∈ tyB) : OpS G [oa] k (isi2D b c) (rI2 G.K b c) := by
  intro κ P H σ ρ Fs vs ds Gs d Q R qd nd e q
  cases qd with | cons r1 qd =>
  cases qd
  obtain ⟨a, e1, e⟩ := Option.map_eq_some_iff.mp e
  subst e
  refine ⟨by show 2 ≤ sizeLine; decide, fun p hp => ?_⟩
  have E : Ext (fun _ => False) P H P (upd H p (.tup [.ty b, .ty c])) := Ext.new (keep_upd hp)
  have dn := r1.view R
  refine ⟨_, p, [.ty b, .ty c], .type a, [.type b, .type c], isiB a b || isiB a c, rfl, upd_same, .cons (.ty b) (.cons (.ty c) .nil), (dn.ext (Ext.new (keep_upd hp))).tyX e1, ?_, q _ _ [] (OwnK.flat (F := []) (.bl _) rfl) List.nodup_nil (fun a m => by cases m) (keep_upd hp)⟩
  have k1 := kit_ty (K := G.K) (isi_kit (tyN_mem e1) hb)
  have k2 := kit_ty (K := G.K) (isi_kit (tyN_mem e1) hc)
  unfold PySem.W.kitAny
  rw [k1]
  cases isiB a b with
  | true => rfl
  | false =>
    simp only
    unfold PySem.W.kitAny
    rw [k2]
    cases isiB a c <;> rfl
end
section
variable {X : Cx} {κ T U : List Nat} {k : Nat} {f g : Sem0} {a b e : Expr} {rest : List Expr} {pos p p1 p2 p3 : Pos} {x1 : Nat}
theorem ve_isi {oa : Od} {T : Str} {Ty : String} (hT : Ty ∈ tyB) (hg : Gl X "isinstance") (hm : X.mg "isinstance" = none) (ha : VO X κ a oa) (hgt : Gl X T) (hmt : X.mg T = none) (hbt : bootBuiltins T = some (.type Ty)) (hn : T ≠ "__name__" := by decide) (hdb : (T == ("__debug__" : Str)) = false := by decide)
    (hs : starEach [a, .Name T p1] X.env = (false, eval a X.env) :: starEach [.Name T p1] X.env := by rfl) (hs2 : starEach [.Name T p1] X.env = (false, eval (.Name T p1) X.env) :: starEach [] X.env := by rfl) (hpl : (backTo pos (starEach [.Name T p1] X.env)).any (·.1) = false := by rfl) :
    PE X (.Call (.Name "isinstance" p) [a, .Name T p1] [] pos) (tV (gd X) (Ts [oa]) κ k (opF (isiD Ty) [oa])) :=
  (pe_callB call_isi hg hm vb_isinstance (pa_cons ha.pe (pa_cons (pe_bltn (v := .ty Ty) hgt hmt hbt rfl hn hdb) pa_nil hs2) hs) (by decide) (by decide) hs hpl).imp fun σ H Q h => op_ok (wf1 ha) (O_isi hT) h
theorem ve_isi2 {oa : Od} {T S : Str} {Ty Sy : String} (hT : Ty ∈ tyB) (hS : Sy ∈ tyB) (hg : Gl X "isinstance") (hm : X.mg "isinstance" = none) (ha : VO X κ a oa) (hgt : Gl X T) (hmt : X.mg T = none) (hbt : bootBuiltins T = some (.type Ty)) (hgs : Gl X S) (hms : X.mg S = none) (hbs : bootBuiltins S = some (.type Sy))
    (hn : T ≠ "__name__" := by decide) (hdb : (T == ("__debug__" : Str)) = false := by decide) (hn2 : S ≠ "__name__" := by decide) (hdb2 : (S == ("__debug__" : Str)) = false := by decide)
    (hs : starEach [a, .Tuple [.Name T p1, .Name S p2] x1 p3] X.env = (false, eval a X.env) :: starEach [.Tuple [.Name T p1, .Name S p2] x1 p3] X.env := by rfl) (hs2 : starEach [.Tuple [.Name T p1, .Name S p2] x1 p3] X.env = (false, eval (.Tuple [.Name T p1, .Name S p2] x1 p3) X.env) :: starEach [] X.env := by rfl) (hpl : (backTo pos (starEach [.Tuple [.Name T p1, .Name S p2] x1 p3] X.env)).any (·.1) = false := by rfl)
    (hs3 : starEach [.Name T p1, .Name S p2] X.env = (false, eval (.Name T p1) X.env) :: starEach [.Name S p2] X.env := by rfl) (hs4 : starEach [.Name S p2] X.env = (false, eval (.Name S p2) X.env) :: starEach [] X.env := by rfl) :
    PE X (.Call (.Name "isinstance" p) [a, .Tuple [.Name T p1, .Name S p2] x1 p3] [] pos) (tV (gd X) (Ts [oa]) κ k (opF (isi2D Ty Sy) [oa])) :=
  (pe_callB call_isiT hg hm vb_isinstance (pa_cons ha.pe (pa_cons (pe_tup (pa_cons (pe_bltn (v := .ty Ty) hgt hmt hbt rfl hn hdb) (pa_cons (pe_bltn (v := .ty Sy) hgs hms hbs rfl hn2 hdb2) pa_nil hs4) hs3)) pa_nil hs2) hs) (by decide) (by decide) hs hpl).imp fun σ H Q h => op_ok (wf1 ha) (O_isi2 hT hS) h
/-! ### and, or, not as values of bools -/
def andV (f g : Sem0) : Sem0 := fun ρ => (f ρ).bind fun p => match p.1 with
  | .bl true => g p.2
  | .bl false => some (.bl false, p.2)
  | _ => none
def orV (f g : Sem0) : Sem0 := fun ρ => (f ρ).bind fun p => match p.1 with
  | .bl false => g p.2
  | .bl true => some (.bl true, p.2)
  | _ => none
def notV (f : Sem0) : Sem0 := fun ρ => (f ρ).bind fun p => match p.1 with
  | .bl b => some (.bl (!b), p.2)
  | _ => none
theorem ve_one {op : BoolOp} (h : PE X a (tV (gd X) T κ k f)) : PE X (.BoolOp op [a] pos) (tV (gd X) T κ k f) := pe_one h
theorem bl_res {G : Wd} {P : Addr → Prop} {H : Hp} {σ : L2.St} {ρ ρ' : List D} {Fs : Nat → List Addr} {Q : VK} {c : Bool} (R : Rep G P H σ ρ κ Fs) (s : Stp T P H Fs ρ P H Fs ρ) (q : Res G T κ k P H Fs σ ρ ρ (.bl c) Q) : Q (.bl c) H :=
  q _ H P [] Fs R (OwnK.flat (F := []) (.bl c) rfl) List.nodup_nil (fun a m => by cases m) s.ext s.st s.gr
theorem ve_and (ha : PE X a (tV (gd X) T κ k f)) (hb : PE X (.BoolOp .And (b :: rest) pos) (tV (gd X) U κ k g)) : PE X (.BoolOp .And (a :: b :: rest) pos) (tV (gd X) (T ++ U) κ k (andV f g)) :=
  (pe_and ha hb).imp fun σ H Q ⟨P, ρ, Fs, d, ρ', R, e, q⟩ => by
    unfold andV at e
    obtain ⟨⟨c, ρ1⟩, e1, e⟩ := Option.bind_eq_some_iff.mp e
    refine ⟨P, ρ, Fs, c, ρ1, R, e1, fun v H' P' F Fs' R' o nd fr E st gr => ?_⟩
    cases c <;> try cases e
    rename_i c
    refine ⟨c, (bl_own o).1, ?_⟩
    cases c with
    | true => exact ⟨P', ρ1, Fs', d, ρ', R', e, fun v H2 P2 F Fs2 R2 o nd fr E2 st2 gr2 => let s := Stp.trans R ⟨E, st, gr⟩ ⟨E2, st2, gr2⟩; q v H2 P2 F Fs2 R2 o nd (fun a m => ⟨(fr a m).1, back_none E (fr a m).2.1, (fr a m).2.2⟩) s.ext s.st s.gr⟩
    | false =>
      cases e
      have s := Stp.mono (U := T ++ U) R (fun i hi => List.mem_append_left _ hi) ⟨E, st, gr⟩
      exact q _ H' P' [] Fs' R' (OwnK.flat (F := []) (.bl _) rfl) List.nodup_nil (fun a m => by cases m) s.ext s.st s.gr
theorem ve_or (ha : PE X a (tV (gd X) T κ k f)) (hb : PE X (.BoolOp .Or (b :: rest) pos) (tV (gd X) U κ k g)) : PE X (.BoolOp .Or (a :: b :: rest) pos) (tV (gd X) (T ++ U) κ k (orV f g)) :=
  (pe_or ha hb).imp fun σ H Q ⟨P, ρ, Fs, d, ρ', R, e, q⟩ => by
    unfold orV at e
    obtain ⟨⟨c, ρ1⟩, e1, e⟩ := Option.bind_eq_some_iff.mp e
    refine ⟨P, ρ, Fs, c, ρ1, R, e1, fun v H' P' F Fs' R' o nd fr E st gr => ?_⟩
    cases c <;> try cases e
    rename_i c
    refine ⟨c, (bl_own o).1, ?_⟩
    cases c with
    | false => exact ⟨P', ρ1, Fs', d, ρ', R', e, fun v H2 P2 F Fs2 R2 o nd fr E2 st2 gr2 => let s := Stp.trans R ⟨E, st, gr⟩ ⟨E2, st2, gr2⟩; q v H2 P2 F Fs2 R2 o nd (fun a m => ⟨(fr a m).1, back_none E (fr a m).2.1, (fr a m).2.2⟩) s.ext s.st s.gr⟩
    | true =>
      cases e
      have s := Stp.mono (U := T ++ U) R (fun i hi => List.mem_append_left _ hi) ⟨E, st, gr⟩
      exact q _ H' P' [] Fs' R' (OwnK.flat (F := []) (.bl _) rfl) List.nodup_nil (fun a m => by cases m) s.ext s.st s.gr
theorem ve_not (ha : PE X a (tV (gd X) T κ k f)) : PE X (.UnaryOp .Not a pos) (tV (gd X) T κ k (notV f)) :=
  (pe_not ha).imp fun σ H Q ⟨P, ρ, Fs, d, ρ', R, e, q⟩ => by
    unfold notV at e
    obtain ⟨⟨c, ρ1⟩, e1, e⟩ := Option.bind_eq_some_iff.mp e
    refine ⟨P, ρ, Fs, c, ρ1, R, e1, fun v H' P' F Fs' R' o nd fr E st gr => ?_⟩
    cases c <;> try cases e
    exact ⟨_, (bl_own o).1, q _ H' P' [] Fs' R' (OwnK.flat (F := []) (.bl _) rfl) List.nodup_nil (fun a m => by cases m) E st gr⟩
/-! ### truth -/
def truF (f : Sem0) : Tst := fun ρ => (f ρ).bind fun p => (truD p.1).bind fun b => some (b, p.2)
theorem den_tru {G : Wd} {P : Addr → Prop} {H : Hp} {v : V} {d : D} {c : Bool} (h : Den G P H v d) (e : truD d = some c) : TruV G.K v H c := by
  cases h with
  | non => cases e; rfl
  | bl b => cases e; rfl
  | int i => cases e; rfl
  | str x =>
    simp only [truD] at e
    split at e
    · rename_i hz
      cases e
      exact ⟨hz, rfl⟩
    · cases e
  | tup ha r =>
    cases e
    refine .inr (.inl ⟨_, .inl (.inl ha), ?_⟩)
    have := r.length
    rename_i vs ds
    cases vs <;> cases ds <;> simp_all
  | lst ha r =>
    cases e
    refine .inl ⟨_, ha.sq, ?_⟩
    have := r.length
    rename_i vs ds
    cases vs <;> cases ds <;> simp_all
  | dct p ha hk r r2 =>
    cases hk with
    | k kvs =>
      cases e
      refine .inr (.inr ⟨kvs, ha, ?_⟩)
      cases kvs <;> rfl
    | n xs ks _ => cases e
theorem O_tru {G : Wd} {oa : Od} {κ : List Nat} (wf : WfSeq κ [oa]) {σ : L2.St} {H : Hp} {Q : Bool → Hp → Prop} (h : tVT G (Ts [oa]) κ (fun ρ => (seqF [oa] ρ).bind fun p => match p.1 with | [d] => (truD d).bind fun b => some (b, p.2) | _ => none) σ H Q) :
    (oa.te G κ) σ H fun x H' => ∃ k, TruV G.K x H' k ∧ Q k H' := by
  obtain ⟨P, ρ, Fs, b, ρ', R, e, q⟩ := h
  obtain ⟨⟨ds, ρ1⟩, e1, e⟩ := Option.bind_eq_some_iff.mp e
  have := args_ok [oa] wf R e1 (Q := fun vs H' => match vs with | [x] => ∃ k, TruV G.K x H' k ∧ Q k H' | _ => False) fun vs H1 P1 Gs Fs1 R1 qd nd fr E st gr => by
    cases qd with | cons r1 qd =>
    cases qd
    dsimp only at e
    obtain ⟨c, e2, e⟩ := Option.bind_eq_some_iff.mp e
    cases e
    exact ⟨_, den_tru (r1.view R1) e2, q H1 P1 Fs1 R1 E st gr⟩
  exact this
def truO (oa : Od) : Tst := fun ρ => (seqF [oa] ρ).bind fun p => match p.1 with
  | [d] => (truD d).bind fun b => some (b, p.2)
  | _ => none
theorem vt_tru {oa : Od} (ha : VO X κ a oa) (he : ∀ whole, isTrue a X.env whole = (do let v ← whole; standAt a.pos; holding [v] (truthy v)) := by intro _; rfl) : PT X a (tVT (gd X) (Ts [oa]) κ (truO oa)) :=
  (pt_truth ha.pe he).imp fun σ H Q h => O_tru (wf1 ha) h
end
/-! ### a slot's own object changed -/
section
variable {G : Wd} {P P' : Addr → Prop} {H H' : Hp} {σ : L2.St} {ρ : List D} {κ : List Nat} {Fs : Nat → List Addr} {Z : Addr → Prop} {v : V} {d : D} {F : List Addr} {k i : Nat}
theorem Rep.mut (R : Rep G P H σ ρ κ Fs) (E : Ext Z P H P' H') (hZ : ∀ j a, j ≠ i → a ∈ Fs j → ¬ Z a) (hv : σ[i]? = .some (.some v)) (o : OwnK G P' H' (κ.getD i 0) v d F) (nd : F.Nodup) (np : ∀ a ∈ F, ¬ P' a) (dj : ∀ j, j ≠ i → ∀ a ∈ F, a ∉ Fs j) : Rep G P' H' σ (ρ.set i d) κ (setF Fs i F) := by
  have hi : i < ρ.length := by
    obtain ⟨h, _⟩ := List.getElem?_eq_some_iff.mp hv
    rw [R.len] at h
    exact h
  refine ⟨by simp [R.len], by simp [R.lenk], fun j e hj hu => ?_, fun j h => ?_, fun j l a h1 h2 => ?_, fun j => ?_, fun j a m p => ?_, E.pt R.pt⟩
  · by_cases q : j = i
    · subst q
      rw [List.getElem?_set_self hi] at hj
      cases hj
      exact ⟨v, hv, by rw [setF_same]; exact o⟩
    · rw [List.getElem?_set_ne (Ne.symm q)] at hj
      obtain ⟨u, h1, h2⟩ := R.at_ j e hj hu
      exact ⟨u, h1, by rw [setF_ne q]; exact h2.ext E fun a m => hZ j a q m⟩
  · by_cases q : j = i
    · subst q
      have := h d (List.getElem?_set_self hi)
      subst this
      exact o.ne_und.elim
    · rw [setF_ne q]
      exact R.un j fun d' e => h d' (by rw [List.getElem?_set_ne (Ne.symm q)]; exact e)
  · by_cases q : j = i
    · by_cases r : l = i
      · rw [q, r]
      · rw [q, setF_same] at h1
        rw [setF_ne r] at h2
        exact absurd h2 (dj l r a h1)
    · by_cases r : l = i
      · rw [r, setF_same] at h2
        rw [setF_ne q] at h1
        exact absurd h1 (dj j q a h2)
      · rw [setF_ne q] at h1
        rw [setF_ne r] at h2
        exact R.dj j l a h1 h2
  · by_cases q : j = i
    · rw [q, setF_same]; exact nd
    · rw [setF_ne q]; exact R.nd j
  · by_cases q : j = i
    · rw [q, setF_same] at m; exact np a m p
    · rw [setF_ne q] at m
      rcases E.newP a p with z | z | z
      · exact R.np j a m z
      · obtain ⟨u, e, _⟩ := R.isM m; rw [z] at e; cases e
      · exact hZ j a q m z
/-- the step that changes slot i's own object, behind a step T -/
theorem mut_stp {T : List Nat} {P0 : Addr → Prop} {H0 : Hp} {Fs0 : Nat → List Addr} {ρ0 : List D} {σ0 : L2.St} (R0 : Rep G P0 H0 σ0 ρ0 κ Fs0) (s : Stp T P0 H0 Fs0 ρ0 P H Fs ρ) (hi : i ∉ T) (E : Ext Z P H P H') (hZ : ∀ c, Z c → c ∈ Fs i) (gr : ∀ a, a ∈ F → a ∈ Fs i ∨ H0 a = none) :
    Stp (i :: T) P0 H0 Fs0 ρ0 P H' (setF Fs i F) (ρ.set i d) := by
  have hFi := (s.st i hi).1
  refine ⟨(s.ext.more (fun c ⟨j, hj, m⟩ => ⟨j, List.mem_cons_of_mem _ hj, m⟩) (R0.zm _) (R0.zp _)).trans E fun c z => .inl ⟨i, List.mem_cons_self, hFi ▸ hZ c z⟩, fun j hj => ?_, fun j a m => ?_⟩
  · simp only [List.mem_cons, not_or] at hj
    obtain ⟨a, b⟩ := s.st j hj.2
    exact ⟨by rw [setF_ne hj.1]; exact a, by rw [List.getElem?_set_ne (Ne.symm hj.1)]; exact b⟩
  · by_cases q : j = i
    · subst q
      rw [setF_same] at m
      rcases gr a m with z | z
      · exact .inl (hFi ▸ z)
      · exact .inr z
    · rw [setF_ne q] at m; exact s.gr j a m
end
section
variable {X : Cx} {κ T U : List Nat} {k i : Nat} {f g : Sem0} {x : Str} {e a : Expr} {pos p p2 : Pos}
/-- x.append(e) -/
def appF (i : Nat) (f : Sem0) : Sem0 := fun ρ => match ρ[i]? with
  | some (.lst xs) => (f ρ).bind fun q => if xs.length < sizeLine then some (.non, q.2.set i (.lst (xs ++ [q.1]))) else none
  | _ => none
theorem ve_append (hk : κ.getD i 0 = k + 1) (hi : i ∉ T) (hN : X.N[i]? = some x) (hv : Vis X.env.scope x) (he : PE X e (tV (gd X) T κ k f)) (hd : (x == ("__debug__" : Str)) = false := by decide) (hcd : (x == ("__classdict__" : Str)) = false := by decide)
    (hbase : attributeBase (.Name x p) "append" X.env (eval (.Name x p) X.env) = eval (.Name x p) X.env := by rfl) (hline : (p2.endLine == pos.line) = true := by rfl) (hs : starEach [e] X.env = (false, eval e X.env) :: starEach [] X.env := by rfl) (hpl : (backTo pos (starEach [] X.env)).any (·.1) = false := by rfl)
    (hfew : ((backTo pos (starEach [e] X.env)).all (fun x => !x.1) && (backToKw pos (keywordEach [] X.env)).all (fun x => x.1.isSome) && decide ([e].length + ([] : List Keyword).length + (if ([] : List Keyword).isEmpty then 0 else 1) < 30)) = true := by rfl) :
    PE X (.Call (.Attribute (.Name x p) "append" p2) [e] [] pos) (tV (gd X) (i :: T) κ 0 (appF i f)) :=
  (pe_bm PySem.F.plainAttrs_list PySem.F.slot_list_append PySem.F.type_list_append mt_append (pe_var hN hv hd hcd) (pa_cons he pa_nil hs) hbase hfew hline hs hpl).imp fun σ H Q ⟨P, ρ, Fs, d, ρ', R, e, q⟩ => by
    unfold appF at e
    split at e
    case h_2 => cases e
    rename_i xs hx
    obtain ⟨⟨dy, ρ1⟩, e1, e⟩ := Option.bind_eq_some_iff.mp e
    split at e
    case isFalse => cases e
    rename_i hz
    cases e
    obtain ⟨v, hv, ow⟩ := R.at_ i _ hx (by intro z; cases z)
    rw [hk] at ow
    obtain ⟨a, acc, Gs, rfl, ha, t, eF⟩ := id ow
    refine ⟨_, hv, .inl ⟨rfl, acc, .inl (.inl ha)⟩, P, ρ, Fs, dy, ρ1, R, e1, fun y H1 P1 F Fs1 R1 oy ny fy E st gr => ?_⟩
    have s : Stp T P H Fs ρ P1 H1 Fs1 ρ1 := ⟨E, st, gr⟩
    obtain ⟨f1, f2⟩ := st i hi
    obtain ⟨v2, hv2, ow2⟩ := R1.at_ i (.lst xs) (f2.trans hx) (by intro z; cases z)
    rw [hv] at hv2
    cases hv2
    rw [hk] at ow2
    have dj : ∀ c, c ∈ Fs1 i → c ∉ F := fun c m z => (fy c z).2.2 i m
    have aF : a ∈ Fs1 i := by rw [f1, eF]; exact List.mem_cons_self
    obtain ⟨acc2, F2, b1, b2, b3, b4, b5, b6, b7⟩ := own_push ow2 (R1.nd i) (R1.np i a aF) oy ny dj
    have R2 := R1.mut (i := i) b7 (fun j c hj m z => by subst z; exact hj (R1.dj j i c m aF)) hv (by rw [hk]; exact b3) b4 (fun c m => (b5 c m).elim (R1.np i c) fun z => (fy c z).1) (fun j hj c m m' => (b5 c m).elim (fun z => hj (R1.dj j i c m' z)) fun z => (fy c z).2.2 j m')
    have s2 := mut_stp (d := .lst (xs ++ [dy])) (F := F2) R s hi b7 (fun c z => by subst z; exact aF) fun c m => (b5 c m).imp id fun z => (fy c z).2.1
    exact ⟨a, acc2, y, rfl, rfl, b1, by rw [b2]; exact hz, q .non _ P1 [] _ R2 ⟨.non, rfl⟩ List.nodup_nil (fun a m => by cases m) s2.ext s2.st s2.gr⟩
/-- x[j] = e, x a list of shared things -/
def stS (i : Nat) (f g : Sem0) : SemS := fun ρ => (f ρ).bind fun p => match p.2[i]? with
  | some (.lst xs) => (g p.2).bind fun q => match q.1 with
    | .int j => (ixN xs.length j).bind fun n => some (.nx (q.2.set i (.lst (xs.set n p.1))))
    | _ => none
  | _ => none
theorem vs_setIx {Φ κb : List Nat} {kr : Nat} {tpos : Pos} (hk : κ.getD i 0 = 1) (hi : i ∉ U) (hN : X.N[i]? = some x) (hv : Vis X.env.scope x) (he : PE X e (tV (gd X) T κ 0 f)) (hj : PE X a (tV (gd X) U κ 0 g)) (hd : (x == ("__debug__" : Str)) = false := by decide) (hcd : (x == ("__classdict__" : Str)) = false := by decide)
    (ha : ∀ v, assign (.Subscript (.Name x p) a tpos) X.env v = (do
      let ov ← holding [v] (eval (.Name x p) X.env)
      let iv ← holding [v, ov] (eval a X.env)
      standAt tpos
      holding [v, ov, iv] (setItem ov iv v)
      release [v, ov, iv] []) := by intro _; rfl)
    (hs : swapsWithSole [.Subscript (.Name x p) a tpos] e pos.line X.env = pure false := by rfl) (hw : swappedStores [.Subscript (.Name x p) a tpos] e X.env = pure none := by rfl) (h1 : (assignEach [.Subscript (.Name x p) a tpos] X.env).map (·.2) = [assign (.Subscript (.Name x p) a tpos) X.env] := by rfl) :
    PS X (.Assign [.Subscript (.Name x p) a tpos] e pos) (tS (gd X) Φ κ κ κb kr (stS i f g)) :=
  PS.imp (ps_asg he (pg_sub (pe_var hN hv hd hcd) hj set_list ha) hs hw h1) fun E σ H ⟨M, P, ρ, Fs, o, hM, R, A, e, q⟩ => by
    unfold stS at e
    obtain ⟨⟨dy, ρ1⟩, e1, e⟩ := Option.bind_eq_some_iff.mp e
    dsimp only at e
    split at e
    case h_2 => cases e
    rename_i xs hx
    obtain ⟨⟨dj, ρ2⟩, e2, e⟩ := Option.bind_eq_some_iff.mp e
    cases dj <;> try cases e
    rename_i j
    obtain ⟨n, hn, e⟩ := Option.bind_eq_some_iff.mp e
    cases e
    refine ⟨P, ρ, Fs, dy, ρ1, R, e1, fun y H1 P1 Fy Fs1 R1 oy ny fy E1 st1 gr1 => ?_⟩
    have A1 := A.step E1 gr1
    obtain ⟨v1, hv1, ow1⟩ := R1.at_ i _ hx (by intro z; cases z)
    refine ⟨v1, hv1, P1, ρ1, Fs1, _, ρ2, R1, e2, fun w H2 P2 Fw Fs2 R2 ow2 nw fw E2 st2 gr2 => ?_⟩
    have A2 := A1.step E2 gr2
    have s2 : Stp U P1 H1 Fs1 ρ1 P2 H2 Fs2 ρ2 := ⟨E2, st2, gr2⟩
    have dy2 := oy.1.ext E2
    obtain ⟨f1, f2⟩ := st2 i hi
    obtain ⟨v2, hv2, ow3⟩ := R2.at_ i _ (f2.trans hx) (by intro z; cases z)
    rw [hv1] at hv2
    cases hv2
    rw [hk] at ow3
    obtain ⟨l, vs, rfl, hl, dn, eF⟩ := ow3.of1
    have lF : l ∈ Fs2 i := by rw [eF]; exact List.mem_cons_self
    have pl := R2.np i l lF
    have E3 : Ext (fun c => c = l) P2 H2 P2 (upd H2 l (.lst (vs.set n y))) := by
      refine ⟨fun _ h => h, fun _ h => .inl h, fun c o h n => by rw [upd_ne n]; exact h, fun c h => ?_, fun c z => ?_, fun c z => ?_, fun pt c p => ?_⟩
      · by_cases q : c = l
        · rw [q, upd_same]; simp
        · rw [upd_ne q]; exact h
      · subst z; exact ⟨_, hl, trivial⟩
      · subst z; exact pl
      · have : c ≠ l := fun z => pl (z ▸ p)
        rw [upd_ne this]; exact pt c p
    have ow4 : OwnK (gd X) P2 (upd H2 l (.lst (vs.set n y))) 1 (.ref l) (.lst (xs.set n dy)) [l] := OwnK.lst1 upd_same ((dn.set n dy2).ext E3)
    have R4 := R2.mut (i := i) E3 (fun c a hc m z => by subst z; exact hc (R2.dj c i a m lF)) hv1 (by rw [hk]; exact ow4) (by simp) (fun c m => by rw [List.mem_singleton] at m; subst m; exact pl) (fun c hc a m m' => by rw [List.mem_singleton] at m; subst m; exact hc (R2.dj c i a m' lF))
    have A4 : M.At (gd X) P2 (upd H2 l (.lst (vs.set n y))) σ κ (setF Fs2 i [l]) := by
      refine ⟨A2.ext.trans E3 fun c z => ?_, A2.same, A2.kin, fun c a m => ?_, fun m hm => (A2.late m hm).trans E3.late⟩
      · subst z
        rcases A2.own i c lF with z | z
        · exact .inl ⟨i, z.1, z.2⟩
        · exact .inr z
      · by_cases z : c = i
        · subst z
          rw [setF_same, List.mem_singleton] at m
          subst m
          exact A2.own c a lF
        · rw [setF_ne z] at m
          exact A2.own c a m
    exact ⟨l, vs, j, n, rfl, int_own ow2, hl, by rw [dn.length]; exact hn, q σ _ P2 _ R4 A4⟩
/-- x.pop() -/
def popF (i : Nat) : Sem0 := fun ρ => match ρ[i]? with
  | some (.lst xs) => (xs[xs.length - 1]?).bind fun d => some (d, ρ.set i (.lst xs.dropLast))
  | _ => none
/-- x.pop(j) -/
def popAtF (i : Nat) (f : Sem0) : Sem0 := fun ρ => match ρ[i]? with
  | some (.lst xs) => (f ρ).bind fun q => match q.1 with
    | .int j => if -(2 ^ 63) ≤ j ∧ j < 2 ^ 63 then (seqIndex? j xs.length).bind fun n => (xs[n]?).bind fun d => some (d, q.2.set i (.lst (xs.eraseIdx n))) else none
    | _ => none
  | _ => none
theorem own_new {G : Wd} {P : Addr → Prop} {H : Hp} {l : Addr} {vs : List V} (pl : ¬ P l) (u : HO) (hu : IsM u) (hl : H l = some (.lst vs)) : Ext (fun c => c = l) P H P (upd H l u) := by
  refine ⟨fun _ h => h, fun _ h => .inl h, fun c o h n => by rw [upd_ne n]; exact h, fun c h => ?_, fun c z => ?_, fun c z => ?_, fun pt c p => ?_⟩
  · by_cases q : c = l
    · rw [q, upd_same]; simp
    · rw [upd_ne q]; exact h
  · subst z; exact ⟨_, hl, trivial⟩
  · subst z; exact pl
  · have : c ≠ l := fun z => pl (z ▸ p)
    rw [upd_ne this]; exact pt c p
theorem ve_popAt (hk : κ.getD i 0 = 1) (hi : i ∉ T) (hN : X.N[i]? = some x) (hv : Vis X.env.scope x) (he : PE X e (tV (gd X) T κ 0 f)) (hd : (x == ("__debug__" : Str)) = false := by decide) (hcd : (x == ("__classdict__" : Str)) = false := by decide)
    (hbase : attributeBase (.Name x p) "pop" X.env (eval (.Name x p) X.env) = eval (.Name x p) X.env := by rfl) (hline : (p2.endLine == pos.line) = true := by rfl) (hs : starEach [e] X.env = (false, eval e X.env) :: starEach [] X.env := by rfl) (hpl : (backTo pos (starEach [] X.env)).any (·.1) = false := by rfl)
    (hfew : ((backTo pos (starEach [e] X.env)).all (fun x => !x.1) && (backToKw pos (keywordEach [] X.env)).all (fun x => x.1.isSome) && decide ([e].length + ([] : List Keyword).length + (if ([] : List Keyword).isEmpty then 0 else 1) < 30)) = true := by rfl) :
    PE X (.Call (.Attribute (.Name x p) "pop" p2) [e] [] pos) (tV (gd X) (i :: T) κ 0 (popAtF i f)) :=
  (pe_bm PySem.F.plainAttrs_list PySem.F.slot_list_pop PySem.F.type_list_pop mt_popAt (pe_var hN hv hd hcd) (pa_cons he pa_nil hs) hbase hfew hline hs hpl).imp fun σ H Q ⟨P, ρ, Fs, d, ρ', R, e, q⟩ => by
    unfold popAtF at e
    split at e
    case h_2 => cases e
    rename_i xs hx
    obtain ⟨⟨dj, ρ1⟩, e1, e⟩ := Option.bind_eq_some_iff.mp e
    cases dj <;> try cases e
    rename_i j
    dsimp only at e
    split at e
    case isFalse => cases e
    rename_i hb
    obtain ⟨n, hn, e⟩ := Option.bind_eq_some_iff.mp e
    obtain ⟨dd, hdd, e⟩ := Option.bind_eq_some_iff.mp e
    cases e
    obtain ⟨v, hv, ow⟩ := R.at_ i _ hx (by intro z; cases z)
    rw [hk] at ow
    obtain ⟨a, acc, rfl, ha, dn0, eF0⟩ := ow.of1
    refine ⟨_, hv, .inl ⟨rfl, acc, .inl (.inl ha)⟩, P, ρ, Fs, _, ρ1, R, e1, fun y H1 P1 F Fs1 R1 oy ny fy E st gr => ?_⟩
    have s : Stp T P H Fs ρ P1 H1 Fs1 ρ1 := ⟨E, st, gr⟩
    obtain ⟨f1, f2⟩ := st i hi
    obtain ⟨v2, hv2, ow2⟩ := R1.at_ i (.lst xs) (f2.trans hx) (by intro z; cases z)
    rw [hv] at hv2
    cases hv2
    rw [hk] at ow2
    obtain ⟨b, vs, eb, hl, dn, eF⟩ := ow2.of1
    cases eb
    have lF : a ∈ Fs1 i := by rw [eF]; exact List.mem_cons_self
    have pl := R1.np i a lF
    obtain ⟨w, hw, dw⟩ := dn.get hdd
    have E3 := own_new (G := gd X) pl (.lst (vs.eraseIdx n)) trivial hl
    have ow4 : OwnK (gd X) P1 (upd H1 a (.lst (vs.eraseIdx n))) 1 (.ref a) (.lst (xs.eraseIdx n)) [a] := OwnK.lst1 upd_same ((dn.eraseIdx n).ext E3)
    have R4 := R1.mut (i := i) E3 (fun c b hc m z => by subst z; exact hc (R1.dj c i b m lF)) hv (by rw [hk]; exact ow4) (by simp) (fun c m => by rw [List.mem_singleton] at m; subst m; exact pl) (fun c hc b m m' => by rw [List.mem_singleton] at m; subst m; exact hc (R1.dj c i b m' lF))
    have s2 := mut_stp (d := .lst (xs.eraseIdx n)) (F := [a]) R s hi E3 (fun c z => by subst z; exact lF) fun c m => by rw [List.mem_singleton] at m; subst m; exact .inl lF
    exact ⟨a, vs, j, n, w, rfl, by rw [int_own oy], hl, hb.1, hb.2, by rw [dn.length]; exact hn, hw, q w _ P1 [] _ R4 ⟨dw.ext E3, rfl⟩ List.nodup_nil (fun a m => by cases m) s2.ext s2.st s2.gr⟩
theorem ve_pop (hk : κ.getD i 0 = 1) (hN : X.N[i]? = some x) (hv : Vis X.env.scope x) (hd : (x == ("__debug__" : Str)) = false := by decide) (hcd : (x == ("__classdict__" : Str)) = false := by decide)
    (hbase : attributeBase (.Name x p) "pop" X.env (eval (.Name x p) X.env) = eval (.Name x p) X.env := by rfl) (hline : (p2.endLine == pos.line) = true := by rfl) :
    PE X (.Call (.Attribute (.Name x p) "pop" p2) [] [] pos) (tV (gd X) [i] κ 0 (popF i)) :=
  (pe_bm0 PySem.F.plainAttrs_list PySem.F.slot_list_pop PySem.F.type_list_pop mt_pop (pe_var hN hv hd hcd) hbase hline).imp fun σ H Q ⟨P, ρ, Fs, d, ρ', R, e, q⟩ => by
    unfold popF at e
    split at e
    case h_2 => cases e
    rename_i xs hx
    obtain ⟨dd, hdd, e⟩ := Option.bind_eq_some_iff.mp e
    cases e
    obtain ⟨v, hv, ow⟩ := R.at_ i _ hx (by intro z; cases z)
    rw [hk] at ow
    obtain ⟨a, vs, rfl, hl, dn, eF⟩ := ow.of1
    have lF : a ∈ Fs i := by rw [eF]; exact List.mem_cons_self
    have pl := R.np i a lF
    obtain ⟨w, hw, dw⟩ := dn.get hdd
    have E3 := own_new (G := gd X) pl (.lst vs.dropLast) trivial hl
    have ow4 : OwnK (gd X) P (upd H a (.lst vs.dropLast)) 1 (.ref a) (.lst xs.dropLast) [a] := OwnK.lst1 upd_same (dn.dropLast.ext E3)
    have R4 := R.mut (i := i) E3 (fun c b hc m z => by subst z; exact hc (R.dj c i b m lF)) hv (by rw [hk]; exact ow4) (by simp) (fun c m => by rw [List.mem_singleton] at m; subst m; exact pl) (fun c hc b m m' => by rw [List.mem_singleton] at m; subst m; exact hc (R.dj c i b m' lF))
    have s2 := mut_stp (T := []) (d := .lst xs.dropLast) (F := [a]) R (Stp.refl [] R) (by simp) E3 (fun c z => by subst z; exact lF) fun c m => by rw [List.mem_singleton] at m; subst m; exact .inl lF
    exact ⟨_, hv, .inl ⟨rfl, vs, .inl (.inl hl)⟩, a, vs, w, rfl, rfl, hl, by rw [dn.length]; exact hw, q w _ P [] _ R4 ⟨dw.ext E3, rfl⟩ List.nodup_nil (fun a m => by cases m) s2.ext s2.st s2.gr⟩
end
end VS

set_option Elab.async false
set_option linter.all false
set_option maxRecDepth 100000
set_option maxHeartbeats 1000000
/-! sorted over data. -/
namespace VS
open PySem PySem.Spec PyProof.Rows L2
/-! ### insertion -/
def insL {α : Type} (le : α → α → Bool) (x : α) : List α → List α
  | [] => [x]
  | y :: ys => if le x y = true then x :: y :: ys else y :: insL le x ys
def sortL {α : Type} (le : α → α → Bool) : List α → List α
  | [] => []
  | x :: xs => insL le x (sortL le xs)
section
variable {α : Type} {le : α → α → Bool}
theorem insL_perm (x : α) : ∀ ys : List α, (insL le x ys).Perm (x :: ys)
  | [] => .refl _
  | y :: ys => by
    unfold insL
    split
    · exact .refl _
    · exact ((insL_perm x ys).cons y).trans (.swap x y ys)
theorem sortL_perm : ∀ xs : List α, (sortL le xs).Perm xs
  | [] => .refl _
  | x :: xs => (insL_perm x _).trans ((sortL_perm xs).cons x)
theorem insL_pw (T : PySem.W.TotalLe le) (x : α) : ∀ ys : List α, ys.Pairwise (fun a b => le a b = true) → (insL le x ys).Pairwise (fun a b => le a b = true)
  | [], _ => by simp [insL]
  | y :: ys, h => by
    obtain ⟨h1, h2⟩ := List.pairwise_cons.mp h
    unfold insL
    split
    · rename_i c
      exact List.pairwise_cons.mpr ⟨fun z hz => by
        rcases List.mem_cons.mp hz with rfl | hz
        · exact c
        · exact T.trans _ _ _ c (h1 z hz), h⟩
    · rename_i c
      refine List.pairwise_cons.mpr ⟨fun z hz => ?_, insL_pw T x ys h2⟩
      rcases List.mem_cons.mp ((insL_perm x ys).mem_iff.mp hz) with rfl | hz
      · exact (T.total z y).resolve_left c
      · exact h1 z hz
theorem sortL_pw (T : PySem.W.TotalLe le) : ∀ xs : List α, (sortL le xs).Pairwise (fun a b => le a b = true)
  | [] => .nil
  | x :: xs => insL_pw T x _ (sortL_pw T xs)
theorem insL_congr {r s : α → α → Bool} (x : α) : ∀ ys : List α, (∀ y ∈ ys, r x y = s x y) → insL r x ys = insL s x ys
  | [], _ => rfl
  | y :: ys, h => by
    unfold insL
    rw [h y List.mem_cons_self, insL_congr x ys fun z hz => h z (List.mem_cons_of_mem _ hz)]
theorem sortL_congr {r s : α → α → Bool} : ∀ xs : List α, (∀ a ∈ xs, ∀ b ∈ xs, r a b = s a b) → sortL r xs = sortL s xs
  | [], _ => rfl
  | x :: xs, h => by
    show insL r x (sortL r xs) = insL s x (sortL s xs)
    rw [sortL_congr xs fun a ha b hb => h a (List.mem_cons_of_mem _ ha) b (List.mem_cons_of_mem _ hb)]
    exact insL_congr x _ fun y hy => h x List.mem_cons_self y (List.mem_cons_of_mem _ ((sortL_perm xs).mem_iff.mp hy))
end
namespace D
mutual
theorem eq_of_eqv : ∀ (a b : D), alk a b = true → eqv a b = true → a = b
  | a, b, h, e => by
    cases a with
    | non => cases b with
      | non => rfl
      | _ => simp [alk] at h
    | bl x => cases b with
      | bl y => simp only [eqv] at e; rw [LawfulBEq.eq_of_beq e]
      | _ => simp [alk] at h
    | int x => cases b with
      | int y => simp only [eqv, decide_eq_true_eq] at e; rw [e]
      | _ => simp [alk] at h
    | str x => cases b with
      | str y => simp only [eqv, decide_eq_true_eq] at e; rw [e]
      | _ => simp [alk] at h
    | tup x => cases b with
      | tup y => simp only [eqv] at e; simp only [alk] at h; rw [eqL_of_eqv _ _ h e]
      | _ => simp [alk] at h
    | lst x => cases b with
      | lst y => simp only [eqv] at e; simp only [alk] at h; rw [eqL_of_eqv _ _ h e]
      | _ => simp [alk] at h
    | _ => simp [alk] at h
theorem eqL_of_eqv : ∀ (a b : List D), alkL a b = true → eqvL a b = true → a = b
  | [], [], _, _ => rfl
  | [], _ :: _, _, e => by simp [eqvL] at e
  | _ :: _, [], _, e => by simp [eqvL] at e
  | x :: xs, y :: ys, h, e => by
    simp only [alkL, Bool.and_eq_true] at h
    simp only [eqvL, Bool.and_eq_true] at e
    rw [eq_of_eqv x y h.1 e.1, eqL_of_eqv xs ys h.2 e.2]
end
mutual
theorem eqv_refl : ∀ (n : Nat) (a : D), fit n a = true → eqv a a = true
  | 0, _, h => by cases h
  | n + 1, und, h => by cases h
  | n + 1, dct .., h => by cases h
  | n + 1, non, _ => by simp [eqv]
  | n + 1, bl _, _ => by simp [eqv]
  | n + 1, int _, _ => by simp [eqv]
  | n + 1, str _, _ => by simp [eqv]
  | n + 1, tup xs, h => by simp only [eqv]; exact eqvL_refl n xs h
  | n + 1, lst xs, h => by simp only [eqv]; exact eqvL_refl n xs h
theorem eqvL_refl : ∀ (n : Nat) (a : List D), a.all (fit n) = true → eqvL a a = true
  | _, [], _ => by simp [eqvL]
  | n, x :: xs, h => by
    obtain ⟨h1, h2⟩ := fitL_cons h
    simp only [eqvL, eqv_refl n x h1, eqvL_refl n xs h2, Bool.and_self]
end
mutual
theorem alk_sym : ∀ (a b : D), alk a b = true → alk b a = true
  | a, b, h => by
    cases a with
    | non => cases b with
      | non => rfl
      | _ => simp [alk] at h
    | bl x => cases b with
      | bl y => rfl
      | _ => simp [alk] at h
    | int x => cases b with
      | int y => rfl
      | _ => simp [alk] at h
    | str x => cases b with
      | str y => rfl
      | _ => simp [alk] at h
    | tup x => cases b with
      | tup y => simp only [alk] at h ⊢; exact alk_symL _ _ h
      | _ => simp [alk] at h
    | lst x => cases b with
      | lst y => simp only [alk] at h ⊢; exact alk_symL _ _ h
      | _ => simp [alk] at h
    | _ => simp [alk] at h
theorem alk_symL : ∀ (a b : List D), alkL a b = true → alkL b a = true
  | [], [], _ => by simp [alkL]
  | [], _ :: _, _ => by simp [alkL]
  | _ :: _, [], _ => by simp [alkL]
  | x :: xs, y :: ys, h => by
    simp only [alkL, Bool.and_eq_true] at h ⊢
    exact ⟨alk_sym x y h.1, alk_symL xs ys h.2⟩
end
mutual
theorem tri : ∀ (n : Nat) (a b : D), fit n a = true → fit n b = true → alk a b = true → lt a b = false → lt b a = false → a = b
  | 0, _, _, h, _, _, _, _ => by cases h
  | n + 1, a, b, ha, hb, h, e1, e2 => by
    cases a with
    | non => cases b with
      | non => rfl
      | _ => simp [alk] at h
    | bl x => cases b with
      | bl y => cases x <;> cases y <;> simp_all [lt]
      | _ => simp [alk] at h
    | int x => cases b with
      | int y =>
        simp only [lt, decide_eq_false_iff_not] at e1 e2
        rw [show x = y by omega]
      | _ => simp [alk] at h
    | str x => cases b with
      | str y =>
        simp only [lt, decide_eq_false_iff_not] at e1 e2
        rw [PySem.W.str_of_cps (List.le_antisymm (List.not_lt.mp e2) (List.not_lt.mp e1))]
      | _ => simp [alk] at h
    | tup x => cases b with
      | tup y => simp only [lt] at e1 e2; simp only [alk] at h; rw [triL n _ _ ha hb h e1 e2]
      | _ => simp [alk] at h
    | lst x => cases b with
      | lst y => simp only [lt] at e1 e2; simp only [alk] at h; rw [triL n _ _ ha hb h e1 e2]
      | _ => simp [alk] at h
    | _ => simp [alk] at h
theorem triL : ∀ (n : Nat) (a b : List D), a.all (fit n) = true → b.all (fit n) = true → alkL a b = true → ltL a b = false → ltL b a = false → a = b
  | _, [], [], _, _, _, _, _ => rfl
  | _, [], _ :: _, _, _, _, e, _ => by simp [ltL] at e
  | _, _ :: _, [], _, _, _, _, e => by simp [ltL] at e
  | n, x :: xs, y :: ys, ha, hb, h, e1, e2 => by
    obtain ⟨a1, a2⟩ := fitL_cons ha
    obtain ⟨b1, b2⟩ := fitL_cons hb
    simp only [alkL, Bool.and_eq_true] at h
    simp only [ltL] at e1 e2
    by_cases c : eqv x y = true
    · have := eq_of_eqv x y h.1 c
      subst this
      rw [if_pos c] at e1 e2
      rw [triL n xs ys a2 b2 h.2 e1 e2]
    · rw [if_neg c] at e1
      by_cases c2 : eqv y x = true
      · have := eq_of_eqv y x (alk_sym _ _ h.1) c2
        subst this
        exact absurd c2 c
      · rw [if_neg c2] at e2
        have := tri n x y a1 b1 h.1 e1 e2
        subst this
        exact absurd (eqv_refl n x a1) c
end
end D
/-- the order of sorted -/
def D.le (rev : Bool) (a b : D) : Bool := if rev then !D.lt a b else !D.lt b a
def neT : D → Bool
  | .tup (_ :: _) => true
  | _ => false
def noT : D → Bool
  | .non => false
  | .tup _ => false
  | _ => true
/-- ints in tuples, to the depth n: all of one kind -/
def unI : Nat → D → Bool
  | 0, .int _ => true
  | n + 1, .tup xs => xs.all (unI n)
  | _, _ => false
def alkAll (ds : List D) : Bool := ds.all (unI 0) || ds.all (unI 1) || ds.all (unI 2) || ds.all (unI 3) || ds.all fun a => ds.all fun b => D.alk a b
def srtOk (ds : List D) : Bool := ds.all (D.fit 30) && alkAll ds && (ds.all neT || ds.all noT) && decide (ds.length ≤ sizeLine)
mutual
theorem unI_alk : ∀ (n : Nat) (a b : D), unI n a = true → unI n b = true → D.alk a b = true
  | 0, a, b, ha, hb => by
    cases a with
    | int _ => cases b with
      | int _ => rfl
      | _ => simp [unI] at hb
    | _ => simp [unI] at ha
  | n + 1, a, b, ha, hb => by
    cases a with
    | tup xs => cases b with
      | tup ys =>
        simp only [unI] at ha hb
        simp only [D.alk]
        exact unI_alkL n xs ys ha hb
      | _ => simp [unI] at hb
    | _ => simp [unI] at ha
theorem unI_alkL : ∀ (n : Nat) (xs ys : List D), xs.all (unI n) = true → ys.all (unI n) = true → D.alkL xs ys = true
  | _, [], ys, _, _ => by cases ys <;> simp [D.alkL]
  | _, _ :: _, [], _, _ => by simp [D.alkL]
  | n, x :: xs, y :: ys, ha, hb => by
    rw [List.all_cons, Bool.and_eq_true] at ha hb
    simp only [D.alkL, unI_alk n x y ha.1 hb.1, unI_alkL n xs ys ha.2 hb.2, Bool.and_self]
end
theorem alkAll_ok {ds : List D} (h : alkAll ds = true) : ∀ a ∈ ds, ∀ b ∈ ds, D.alk a b = true := by
  unfold alkAll at h
  simp only [Bool.or_eq_true] at h
  intro a ha b hb
  rcases h with (((h | h) | h) | h) | h
  · exact unI_alk 0 a b (List.all_eq_true.mp h a ha) (List.all_eq_true.mp h b hb)
  · exact unI_alk 1 a b (List.all_eq_true.mp h a ha) (List.all_eq_true.mp h b hb)
  · exact unI_alk 2 a b (List.all_eq_true.mp h a ha) (List.all_eq_true.mp h b hb)
  · exact unI_alk 3 a b (List.all_eq_true.mp h a ha) (List.all_eq_true.mp h b hb)
  · exact List.all_eq_true.mp (List.all_eq_true.mp h a ha) b hb
def sortG (rev : Bool) (ds : List D) : Option (List D) := match ds with
  | [] => some []
  | [x] => some [x]
  | _ => if srtOk ds = true then some (sortL (D.le rev) ds) else none
def sortedD (rev : Bool) : List D → Option D
  | [.lst xs] => (sortG rev xs).map .lst
  | _ => none
section
variable {G : Wd} {P P' : Addr → Prop} {H H' : Hp}
theorem DenL.mem : ∀ {vs : List V} {ds : List D}, DenL G P H vs ds → ∀ p ∈ vs.zip ds, Den G P H p.1 p.2
  | _, _, .nil, p, m => by cases m
  | _, _, .cons h r, p, m => by
    rw [List.zip_cons_cons] at m
    rcases List.mem_cons.mp m with rfl | m
    · exact h
    · exact r.mem p m
theorem DenL.of_mem : ∀ {zs : List (V × D)}, (∀ p ∈ zs, Den G P H p.1 p.2) → DenL G P H (zs.map (·.1)) (zs.map (·.2))
  | [], _ => .nil
  | z :: zs, h => .cons (h z List.mem_cons_self) (DenL.of_mem fun p m => h p (List.mem_cons_of_mem _ m))
theorem each_of : ∀ {vs : List V} {us : List Value} {ds : List D}, Vals vs us → vs.length = ds.length → PySem.W.EachIs (fun u (z : V × D) => RelV z.1 u) us (vs.zip ds)
  | _, _, [], .nil, _ => .nil
  | _, _, d :: ds, .nil, h => by cases h
  | _, _, [], .cons r t, h => by cases h
  | _, _, d :: ds, .cons r t, h => by
    rw [List.zip_cons_cons]
    exact .cons r (each_of t (by simpa using h))
theorem vals_of : ∀ {us : List Value} {zs : List (V × D)}, PySem.W.EachIs (fun u (z : V × D) => RelV z.1 u) us zs → Vals (zs.map (·.1)) us
  | _, _, .nil => .nil
  | _, _, .cons r t => .cons r (vals_of t)
theorem zip_snd : ∀ {vs : List V} {ds : List D}, vs.length = ds.length → (vs.zip ds).map (·.2) = ds
  | [], [], _ => rfl
  | [], _ :: _, h => by cases h
  | _ :: _, [], h => by cases h
  | v :: vs, d :: ds, h => by
    rw [List.zip_cons_cons, List.map_cons, zip_snd (by simpa using h)]
theorem srt_parts {ds : List D} (h : srtOk ds = true) : ds.all (D.fit 30) = true ∧ (∀ a ∈ ds, ∀ b ∈ ds, D.alk a b = true) ∧ (ds.all neT = true ∨ ds.all noT = true) ∧ ds.length ≤ sizeLine := by
  unfold srtOk at h
  simp only [Bool.and_eq_true, Bool.or_eq_true, decide_eq_true_eq] at h
  obtain ⟨⟨⟨h1, h2⟩, h3⟩, h4⟩ := h
  exact ⟨h1, alkAll_ok h2, h3, h4⟩
theorem fit_mem {n : Nat} {ds : List D} (h : ds.all (D.fit n) = true) {a : D} (m : a ∈ ds) : D.fit n a = true := List.all_eq_true.mp h a m
theorem le_eq {ds : List D} (h : srtOk ds = true) (rev : Bool) : ∀ a ∈ ds, ∀ b ∈ ds, PySem.W.dataLe rev (fun z : D => z.py) a b = D.le rev a b := by
  obtain ⟨h1, h2, _, _⟩ := srt_parts h
  intro a ha b hb
  rw [PySem.W.dataLe_eq]
  have e1 := D.py_lt 30 a b (fit_mem h1 ha) (fit_mem h1 hb) (h2 a ha b hb)
  have e2 := D.py_lt 30 b a (fit_mem h1 hb) (fit_mem h1 ha) (h2 b hb a ha)
  cases rev <;> simp only [cond, D.le, e1, e2] <;> rfl
/-- the model's order is the insertion's -/
theorem merge_eq {ds : List D} (h : srtOk ds = true) (rev : Bool) : ds.mergeSort (PySem.W.dataLe rev fun z : D => z.py) = sortL (D.le rev) ds := by
  obtain ⟨h1, h2, _, _⟩ := srt_parts h
  rw [← sortL_congr (r := PySem.W.dataLe rev fun z : D => z.py) ds (le_eq h rev)]
  have T : PySem.W.TotalLe (PySem.W.dataLe rev fun z : D => z.py) := PySem.W.sortLe_total _ rev _
  refine List.Perm.eq_of_pairwise (le := fun a b => PySem.W.dataLe rev (fun z : D => z.py) a b = true) (fun a b ha hb e1 e2 => ?_) (PySem.W.sort_pairwise T ds) (sortL_pw T ds) ((List.mergeSort_perm _ _).trans (sortL_perm ds).symm)
  have ha' : a ∈ ds := (List.mergeSort_perm _ _).mem_iff.mp ha
  have hb' : b ∈ ds := (sortL_perm ds).mem_iff.mp hb
  rw [le_eq h rev a ha' b hb'] at e1
  rw [le_eq h rev b hb' a ha'] at e2
  cases rev
  · simp only [D.le, Bool.not_eq_true', Bool.false_eq_true, if_false] at e1 e2
    exact D.tri 30 a b (fit_mem h1 ha') (fit_mem h1 hb') (h2 a ha' b hb') e2 e1
  · simp only [D.le, Bool.not_eq_true', if_true] at e1 e2
    exact D.tri 30 a b (fit_mem h1 ha') (fit_mem h1 hb') (h2 a ha' b hb') e1 e2
def rSortA (G : Wd) : List V → Hp → VK → Prop := fun vs H Q => ∃ (P : Addr → Prop) (a : Addr) (ws : List V) (ds es : List D), vs = [.ref a] ∧ SqL G.K H a ws ∧ DenL G P H ws ds ∧ sortG false ds = some es ∧
  ∀ (ys : List V) (p : Addr), DenL G P H ys es → H p = none → Q (.ref p) (upd H p (.lst ys))
theorem short_perm {α : Type} {xs ys : List α} (h : xs.Perm ys) (l : ys.length < 2) : xs = ys := by
  match ys, l with
  | [], _ => exact h.eq_nil
  | [y], _ => exact List.perm_singleton.mp h
theorem cr_sortA {X : Cx} (hu : X.A.units + 64 < cLine) : CallR X (.builtin "sorted") (rSortA (gd X)) := by
  intro pins s σ H vs us Q I r ⟨P, a, ws, ds, es, e, hs, dn, hg, q⟩
  subst e
  obtain ⟨its, rv, hl, hz⟩ := I.list hs
  rw [Vals.ref1 r]
  have l1 := rv.length
  have l2 := dn.length
  by_cases h2 : ds.length < 2
  · have he : es = ds := by
      match ds, h2 with
      | [], _ => cases hg; rfl
      | [x], _ => cases hg; rfl
    subst he
    refine SrtO.sorted_ord SrtO.swo_int hl.isList (by omega) (fun h => absurd h (by omega)) fun out h1 h3 => ?_
    have := short_perm h3.perm (by omega)
    subst this
    obtain ⟨ep, he'⟩ := PyProof.Rows.sortedAll_at s.heap out out.toArray
    exact ⟨.ref _, upd H (s.heap.objs.size + 1) (.lst ws), I.laid (t' := s.toks) (fun _ _ => PyProof.Rows.sortedAll_old) (Nat.le_succ _) ⟨hz, out, ep, rv, he'⟩, rfl, q _ _ dn (I.hok.fresh (Nat.le_succ _))⟩
  · have hk : srtOk ds = true ∧ es = sortL (D.le false) ds := by
      match ds, h2 with
      | [], h => exact absurd (by simp) h
      | [x], h => exact absurd (by simp) h
      | x :: y :: r, _ =>
        simp only [sortG] at hg
        split at hg
        · rename_i c; cases hg; exact ⟨c, rfl⟩
        · cases hg
    obtain ⟨ok, he⟩ := hk
    obtain ⟨h1, h2', h3, h4⟩ := srt_parts ok
    have zm : ∀ z ∈ ws.zip ds, z.2 ∈ ds := fun z m => (List.of_mem_zip m).2
    have en : (ws.zip ds).map (fun z : V × D => z.2.py) = ds.map D.py := by
      rw [← zip_snd l2, List.map_map, zip_snd l2]
      rfl
    refine PySem.W.sorted_data (β := V × D) (R := fun u z => RelV z.1 u) (enc := fun z => z.2.py) hl.isList (each_of rv l2) ?_ ?_ ?_ (by rw [List.length_zip]; omega) (fun z m => ?_) fun out ho eo => ?_
    · -- the items read
      have : ∀ {us : List Value} {zs : List (V × D)}, PySem.W.EachIs (fun u (z : V × D) => RelV z.1 u) us zs → (∀ z ∈ zs, Den (gd X) P H z.1 z.2 ∧ D.fit 30 z.2 = true) → PySem.W.EachIs (fun v (z : V × D) => ∃ as, Reads s.heap v z.2.py as) us zs := by
        intro us zs t
        induction t with
        | nil => intro _; exact .nil
        | cons r _ ih =>
          intro h
          obtain ⟨h5, h6⟩ := h _ List.mem_cons_self
          exact .cons (Dp.reads I _ _ _ (h5.dp h6) r) (ih fun z m => h z (List.mem_cons_of_mem _ m))
      exact this (each_of rv l2) fun z m => ⟨dn.mem z m, fit_mem h1 (zm z m)⟩
    · intro d hd d' hd'
      rw [en] at hd hd'
      obtain ⟨x, hx, rfl⟩ := List.mem_map.mp hd
      obtain ⟨y, hy, rfl⟩ := List.mem_map.mp hd'
      rw [D.py_alk 30 x y (fit_mem h1 hx) (fit_mem h1 hy)]
      exact h2' x hx y hy
    · rw [en]
      rcases h3 with h | h
      · refine .inl fun d hd => ?_
        obtain ⟨x, hx, rfl⟩ := List.mem_map.mp hd
        have := List.all_eq_true.mp h x hx
        cases x with
        | tup xs => cases xs with
          | nil => cases this
          | cons y r => exact ⟨y.py, D.pyL r, by simp only [D.py, D.pyL]⟩
        | _ => cases this
      · refine .inr fun d hd => ?_
        obtain ⟨x, hx, rfl⟩ := List.mem_map.mp hd
        have hn := List.all_eq_true.mp h x hx
        have hf := fit_mem h1 hx
        cases x <;> first | (cases hn; done) | (cases hf; done) | exact ⟨by simp [D.py], by simp [D.py]⟩
    · have := (D.py_plain 30 _ (fit_mem h1 (zm z m))).2
      omega
    · have hp : ∀ z ∈ (ws.zip ds).mergeSort (PySem.W.dataLe false fun z : V × D => z.2.py), z ∈ ws.zip ds := fun z m => (List.mergeSort_perm _ _).mem_iff.mp m
      have e2 : ((ws.zip ds).mergeSort (PySem.W.dataLe false fun z : V × D => z.2.py)).map (·.2) = es := by
        rw [PySem.W.sort_maps (r := PySem.W.dataLe false fun z : V × D => z.2.py) (s := PySem.W.dataLe false fun z : D => z.py) (fun z : V × D => z.2) (fun a _ b _ => rfl), zip_snd l2, merge_eq ok, he]
      have dn2 : DenL (gd X) P H (((ws.zip ds).mergeSort (PySem.W.dataLe false fun z : V × D => z.2.py)).map (·.1)) es := by
        rw [← e2]
        exact DenL.of_mem fun z m => dn.mem z (hp z m)
      have vl := vals_of eo
      obtain ⟨ep, he'⟩ := PyProof.Rows.sortedAll_at s.heap its out.toArray
      refine ⟨.ref _, upd H (s.heap.objs.size + 1) (.lst _), I.laid (t' := s.toks) (fun _ _ => PyProof.Rows.sortedAll_old) (Nat.le_succ _) ⟨?_, out, ep, vl, he'⟩, rfl, q _ _ dn2 (I.hok.fresh (Nat.le_succ _))⟩
      rw [dn2.length, he, (sortL_perm ds).length_eq]
      exact h4
variable {oa : Od} {k : Nat}
theorem O_sorted (ha : oa.k ≤ 1) : OpS G [oa] 1 (sortedD false) (rSortA G) := by
  intro κ P H σ ρ Fs vs ds Gs d Q R qd nd e q
  cases qd with | @cons _ _ a _ _ _ _ _ r1 qd =>
  cases qd
  cases a <;> try cases e
  simp only [sortedD] at e
  obtain ⟨es, e1, e⟩ := Option.map_eq_some_iff.mp e
  subst e
  obtain ⟨a, vs, rfl, a1, a2⟩ := r1.1.kids ha
  exact ⟨P, a, vs, _, es, rfl, a1, a2, e1, fun ys p h hp => fin_lst q hp h⟩
end
end VS

set_option Elab.async false
set_option linter.all false
set_option maxRecDepth 100000
set_option maxHeartbeats 1000000
/-! list * int; x[a][b] = x[a][b] + c. -/
namespace VS
open PySem PySem.Spec PyProof.Rows L2
section
variable {G : Wd} {P P' : Addr → Prop} {H H' : Hp} {oa ob : Od} {k : Nat}
def mulLD : List D → Option D
  | [.lst xs, .int k] => if -(2 ^ 63) ≤ k ∧ k < 2 ^ 63 ∧ xs.length * k.toNat ≤ sizeLine then some (.lst (List.replicate k.toNat xs).flatten) else none
  | _ => none
theorem O_mulL (ha : oa.k = 1) : OpS G [oa, ob] 1 mulLD (r2 rRep) := by
  intro κ P H σ ρ Fs vs ds Gs d Q R qd nd e q
  cases qd with | cons r1 qd => cases qd with | cons r2 qd =>
  cases qd
  unfold mulLD at e
  split at e
  · rename_i xs kk heq
    cases heq
    split at e
    · rename_i hz
      cases e
      have ow := r1.1
      rw [ha] at ow
      obtain ⟨a, vs, rfl, h1, dn, _⟩ := ow.of1
      exact ⟨a, kk, vs, rfl, int_own r2.1, h1, hz.1, hz.2.1, by rw [dn.length]; exact hz.2.2, fun p hp => fin_lst q hp (dn.rep _)⟩
    · cases e
  · cases e
theorem Tri.setAt {R R' : V → D → List Addr → Prop} : ∀ {vs : List V} {ds : List D} {Fs : List (List Addr)} {i : Nat} {v : V} {d : D} {F : List Addr}, Tri R vs ds Fs → vs[i]? = some v → Fs[i]? = some F → R' v d F → (∀ (j : Nat) v d F, j ≠ i → Fs[j]? = some F → R v d F → R' v d F) → Tri R' vs (ds.set i d) Fs
  | _, _, _, _, _, _, _, .nil, h, _, _, _ => by simp at h
  | _, _, _, 0, v, d, F, .cons r t, h1, h2, h3, h4 => by
    simp at h1 h2
    subst h1
    subst h2
    refine .cons h3 ?_
    have : ∀ {vs : List V} {ds : List D} {Fs : List (List Addr)}, Tri R vs ds Fs → (∀ (j : Nat) v d F, Fs[j]? = some F → R v d F → R' v d F) → Tri R' vs ds Fs := by
      intro vs ds Fs t
      induction t with
      | nil => intro _; exact .nil
      | cons r _ ih => intro h; exact .cons (h 0 _ _ _ rfl r) (ih fun j v d F e => h (j + 1) v d F (by simpa using e))
    exact this t fun j v d F e => h4 (j + 1) v d F (by omega) (by simpa using e)
  | _, _, _, i + 1, v, d, F, .cons r t, h1, h2, h3, h4 => by
    refine .cons (h4 0 _ _ _ (by omega) rfl r) (Tri.setAt (i := i) t (by simpa using h1) (by simpa using h2) h3 fun j v d F hj e => h4 (j + 1) v d F (by omega) (by simpa using e))
theorem flat_nodup {Fs : List (List Addr)} (h : Fs.flatten.Nodup) : ∀ {i j : Nat} {F F' : List Addr} {a : Addr}, Fs[i]? = some F → Fs[j]? = some F' → a ∈ F → a ∈ F' → i = j := by
  induction Fs with
  | nil => intro i j F F' a h1; simp at h1
  | cons F0 Fs ih =>
    rw [List.flatten_cons] at h
    obtain ⟨n1, n2, n3⟩ := List.nodup_append.mp h
    intro i j F F' a h1 h2 m m'
    cases i with
    | zero =>
      cases j with
      | zero => rfl
      | succ j =>
        simp at h1
        subst h1
        exact absurd rfl (n3 a m a (mem_flat (List.mem_of_getElem? (by simpa using h2)) m'))
    | succ i =>
      cases j with
      | zero =>
        simp at h2
        subst h2
        exact absurd rfl (n3 a m' a (mem_flat (List.mem_of_getElem? (by simpa using h1)) m))
      | succ j => exact congrArg (· + 1) (ih n2 (by simpa using h1) (by simpa using h2) m m')
end
section
variable {X : Cx} {κ Φ κb : List Nat} {k t a b : Nat} {x y z : Str} {pos p1 p2 p3 p4 p5 p6 p7 p8 p9 p10 p11 : Pos} {c : Int} {j0 : Nat}
def incS (t a b : Nat) (c : Int) : SemS := fun ρ => match ρ[t]?, ρ[a]?, ρ[b]? with
  | some (.lst rows), some (.int i), some (.int j) => (ixN rows.length i).bind fun n => match rows[n]? with
    | some (.lst xs) => (ixN xs.length j).bind fun m => match xs[m]? with
      | some (.int w) => some (.nx (ρ.set t (.lst (rows.set n (.lst (xs.set m (.int (w + c))))))))
      | _ => none
    | _ => none
  | _, _, _ => none
/-- x[y][z] = x[y][z] + c -/
theorem vs_inc2 (hk : κ.getD t 0 = 2) (hN : X.N[t]? = some x) (hv : Vis X.env.scope x) (hNa : X.N[a]? = some y) (hva : Vis X.env.scope y) (hNb : X.N[b]? = some z) (hvb : Vis X.env.scope z)
    (hd : (x == ("__debug__" : Str)) = false := by decide) (hcd : (x == ("__classdict__" : Str)) = false := by decide) (hd2 : (y == ("__debug__" : Str)) = false := by decide) (hcd2 : (y == ("__classdict__" : Str)) = false := by decide) (hd3 : (z == ("__debug__" : Str)) = false := by decide) (hcd3 : (z == ("__classdict__" : Str)) = false := by decide)
    (ha : ∀ v, assign (.Subscript (.Subscript (.Name x p1) (.Name y p2) p3) (.Name z p4) p5) X.env v = (do
      let ov ← holding [v] (eval (.Subscript (.Name x p1) (.Name y p2) p3) X.env)
      let iv ← holding [v, ov] (eval (.Name z p4) X.env)
      standAt p5
      holding [v, ov, iv] (setItem ov iv v)
      release [v, ov, iv] []) := by intro _; rfl)
    (hw : swappedStores [.Subscript (.Subscript (.Name x p1) (.Name y p2) p3) (.Name z p4) p5] (.BinOp (.Subscript (.Subscript (.Name x p6) (.Name y p7) p8) (.Name z p9) p10) .Add (.Constant (.int c) j0 p11) pos) X.env = pure none := by rfl)
    (h1 : (assignEach [.Subscript (.Subscript (.Name x p1) (.Name y p2) p3) (.Name z p4) p5] X.env).map (·.2) = [assign (.Subscript (.Subscript (.Name x p1) (.Name y p2) p3) (.Name z p4) p5) X.env] := by rfl) {spos : Pos}
    (hs' : swapsWithSole [.Subscript (.Subscript (.Name x p1) (.Name y p2) p3) (.Name z p4) p5] (.BinOp (.Subscript (.Subscript (.Name x p6) (.Name y p7) p8) (.Name z p9) p10) .Add (.Constant (.int c) j0 p11) pos) spos.line X.env = pure false := by rfl) :
    PS X (.Assign [.Subscript (.Subscript (.Name x p1) (.Name y p2) p3) (.Name z p4) p5] (.BinOp (.Subscript (.Subscript (.Name x p6) (.Name y p7) p8) (.Name z p9) p10) .Add (.Constant (.int c) j0 p11) pos) spos) (tS (gd X) Φ κ κ κb k (incS t a b c)) :=
  PS.imp (ps_asg (pe_op op_add (pe_ix ix_seq (pe_ix ix_seq (pe_var hN hv hd hcd) (pe_var hNa hva hd2 hcd2) (fun _ _ => rfl)) (pe_var hNb hvb hd3 hcd3) (fun _ _ => rfl)) pe_int) (pg_sub (pe_ix ix_seq (pe_var hN hv hd hcd) (pe_var hNa hva hd2 hcd2) (fun _ _ => rfl)) (pe_var hNb hvb hd3 hcd3) set_list ha) hs' hw h1) fun E σ H ⟨M, P, ρ, Fs, o, hM, R, A, e, q⟩ => by
    unfold incS at e
    split at e
    case h_2 => cases e
    rename_i rows i j ht hia hjb
    obtain ⟨n, hn, e⟩ := Option.bind_eq_some_iff.mp e
    split at e
    case h_2 => cases e
    rename_i xs hrow
    obtain ⟨m, hm, e⟩ := Option.bind_eq_some_iff.mp e
    split at e
    case h_2 => cases e
    rename_i w hw'
    cases e
    obtain ⟨v, hv1, ow⟩ := R.at_ t _ ht (by intro z; cases z)
    obtain ⟨vi, hvi, oi⟩ := R.at_ a _ hia (by intro z; cases z)
    obtain ⟨vj, hvj, oj⟩ := R.at_ b _ hjb (by intro z; cases z)
    have ei := int_own oi
    have ej := int_own oj
    subst ei
    subst ej
    rw [hk] at ow
    obtain ⟨l, vs, Gs, rfl, hl, tri, eF⟩ := id ow
    obtain ⟨vc, Fc, c1, c2, c3⟩ := tri.get hrow
    obtain ⟨lc, ws, rfl, hc, dn, eFc⟩ := c3.of1
    subst eFc
    obtain ⟨vw, w1, w2⟩ := dn.get hw'
    cases w2
    have tl := tri.length.1
    have at1 : atI vs i = some (.ref lc) := by
      unfold atI
      rw [tl, hn]
      exact c1
    have at2 : atI ws j = some (.int w) := by
      unfold atI
      rw [dn.length, hm]
      exact w1
    have ndF : (l :: Gs.flatten).Nodup := eF ▸ R.nd t
    obtain ⟨nd1, nd2⟩ := List.nodup_cons.mp ndF
    have lcF : lc ∈ Gs.flatten := mem_flat (List.mem_of_getElem? c2) (by simp)
    have lcT : lc ∈ Fs t := by rw [eF]; exact List.mem_cons_of_mem _ lcF
    have plc := R.np t lc lcT
    have hne : l ≠ lc := fun z => nd1 (by rw [z]; exact lcF)
    have E3 := own_new (G := gd X) plc (.lst (ws.set m (.int (w + c)))) trivial hc
    have ow2 : OwnK (gd X) P (upd H lc (.lst (ws.set m (.int (w + c))))) 2 (.ref l) (.lst (rows.set n (.lst (xs.set m (.int (w + c)))))) (l :: Gs.flatten) :=
      ⟨l, vs, Gs, rfl, by rw [upd_ne hne]; exact hl, tri.setAt c1 c2 (OwnK.lst1 upd_same ((dn.set m (.int _)).ext E3)) fun j v d F hj hF r => r.ext E3 fun a ma za => by
        subst za
        exact hj (flat_nodup nd2 hF c2 ma (by simp)), rfl⟩
    have R4 := R.mut (i := t) E3 (fun c a hc' ma za => by subst za; exact hc' (R.dj c t a ma lcT)) hv1 (by rw [hk]; exact ow2) (eF ▸ R.nd t) (fun a ma => R.np t a (eF ▸ ma)) (fun c hc' a ma m' => hc' (R.dj c t a m' (eF ▸ ma)))
    have A4 : M.At (gd X) P (upd H lc (.lst (ws.set m (.int (w + c))))) σ κ (setF Fs t (l :: Gs.flatten)) := by
      refine ⟨A.ext.trans E3 fun c zc => ?_, A.same, A.kin, fun c a ma => ?_, fun mm hmm => (A.late mm hmm).trans E3.late⟩
      · subst zc
        rcases A.own t c lcT with z | z
        · exact .inl ⟨t, z.1, z.2⟩
        · exact .inr z
      · by_cases zc : c = t
        · subst zc
          rw [setF_same] at ma
          exact A.own c a (eF ▸ ma)
        · rw [setF_ne zc] at ma
          exact A.own c a ma
    have ix1 : ∀ Q : VK, Q (.ref lc) H → rIx X.K (.ref l) (.int i) H Q := fun Q qq => .inl ⟨l, vs, i, _, rfl, rfl, .inl (.inl hl), at1, qq⟩
    refine ⟨_, hv1, _, hvi, ix1 _ ⟨_, hvj, .inl ⟨lc, ws, j, _, rfl, rfl, .inl (.inl hc), at2, w, c, rfl, rfl, ?_⟩⟩⟩
    refine ⟨_, hv1, _, hvi, ix1 _ ⟨_, hvj, lc, ws, j, m, rfl, rfl, hc, by rw [dn.length]; exact hm, q σ _ P _ R4 A4⟩⟩
end
end VS

set_option Elab.async false
set_option linter.all false
set_option maxRecDepth 100000
set_option maxHeartbeats 1000000
/-! Several targets at once; words in short; callees. -/
namespace VS
open PySem PySem.Spec PyProof.Rows L2
def par2 (i j : Nat) (f g : Sem0) : SemS := fun ρ => (f ρ).bind fun p => (g p.2).bind fun q => some (.nx ((q.2.set i p.1).set j q.1))
def par3 (i j l : Nat) (f g h : Sem0) : SemS := fun ρ => (f ρ).bind fun p => (g p.2).bind fun q => (h q.2).bind fun r => some (.nx (((r.2.set i p.1).set j q.1).set l r.1))
section
variable {X : Cx} {κ κb T U W Φ : List Nat} {k k1 k2 k3 i j l : Nat} {f g h : Sem0} {x y z : Str} {a b c : Expr} {pos px py pz pt pt2 : Pos} {kt kt2 : Nat}
theorem set2_at {M : Fm} {P1 : Addr → Prop} {H1 : Hp} {σ : L2.St} {ρ1 : List D} {Fs1 : Nat → List Addr} {v w : V} {d e : D} {Fv Fw : List Addr} {G : Wd} (hi : i ∉ M.Φ) (hj : j ∉ M.Φ) (hk : i < κ.length) (hk2 : j < κ.length)
    (R : Rep G P1 H1 σ ρ1 κ Fs1) (A : M.At G P1 H1 σ κ Fs1) (ov : OwnK G P1 H1 k1 v d Fv) (nv : Fv.Nodup) (fv : ∀ c ∈ Fv, (¬ P1 c ∧ ∀ i, c ∉ Fs1 i) ∧ M.H0 c = none) (ow : OwnK G P1 H1 k2 w e Fw) (nw : Fw.Nodup) (fw : ∀ c ∈ Fw, (¬ P1 c ∧ ∀ i, c ∉ Fs1 i) ∧ M.H0 c = none) (dj : ∀ c ∈ Fv, c ∉ Fw) :
    Rep G P1 H1 ((σ.set i (some v)).set j (some w)) ((ρ1.set i d).set j e) ((κ.set i k1).set j k2) (setF (setF Fs1 i Fv) j Fw) ∧ M.At G P1 H1 ((σ.set i (some v)).set j (some w)) ((κ.set i k1).set j k2) (setF (setF Fs1 i Fv) j Fw) := by
  have R1 := R.set hk ov nv (fun c m => (fv c m).1.1) fun j _ c m => (fv c m).1.2 j
  have A1 := A.set (k := k1) (v := v) hi fun c m => (fv c m).2
  refine ⟨R1.set (by simpa using hk2) ow nw (fun c m => (fw c m).1.1) fun n hn c m m' => ?_, A1.set hj fun c m => (fw c m).2⟩
  by_cases q : n = i
  · rw [q, setF_same] at m'
    exact dj c m' m
  · rw [setF_ne q] at m'
    exact (fw c m).1.2 n m'
/-- the two values of a pair -/
theorem two_ok {M : Fm} {P : Addr → Prop} {H : Hp} {σ : L2.St} {ρ ρ1 ρ2 : List D} {Fs : Nat → List Addr} {G : Wd} {d e : D} (R : Rep G P H σ ρ κ Fs) (A : M.At G P H σ κ Fs) (e1 : f ρ = some (d, ρ1)) (e2 : g ρ1 = some (e, ρ2)) {Q : List V → Hp → Prop}
    (q : ∀ v w H1 P1 Fv Fw Fs1, Rep G P1 H1 σ ρ2 κ Fs1 → M.At G P1 H1 σ κ Fs1 → OwnK G P1 H1 k1 v d Fv → Fv.Nodup → (∀ c ∈ Fv, (¬ P1 c ∧ ∀ i, c ∉ Fs1 i) ∧ M.H0 c = none) → OwnK G P1 H1 k2 w e Fw → Fw.Nodup → (∀ c ∈ Fw, (¬ P1 c ∧ ∀ i, c ∉ Fs1 i) ∧ M.H0 c = none) → (∀ c ∈ Fv, c ∉ Fw) → Q [v, w] H1) :
    argsT G κ [odE T k1 f, odE U k2 g] σ H Q := by
  have wf : WfSeq κ [odE T k1 f, odE U k2 g] := ⟨⟨fun _ h => by cases h⟩, fun _ h => (by cases h), ⟨fun _ h => by cases h⟩, fun _ h => (by cases h), trivial⟩
  refine args_ok _ wf R (ds := [d, e]) (ρ' := ρ2) (by simp only [seqF, e1, e2, Option.bind_some]) fun vs H1 P1 Gs Fs1 R1 qd nd fr E st gr => ?_
  have A1 := A.step E gr
  cases qd with
  | @cons _ v _ Fv _ _ _ _ r1 qd => cases qd with
    | @cons _ w _ Fw _ _ _ _ r2 qd =>
      cases qd
      have nd2 : (Fv ++ (Fw ++ [])).Nodup := nd
      rw [List.append_nil] at nd2
      obtain ⟨n1, n2, n3⟩ := List.nodup_append.mp nd2
      have fr2 : ∀ c ∈ Fv ++ Fw, H c = none := fun c m => fr c (by show c ∈ Fv ++ (Fw ++ []); rw [List.append_nil]; exact m)
      exact q v w H1 P1 Fv Fw Fs1 R1 A1 r1.1 n1 (fun c m => ⟨r1.2 c m, A.fresh (fr2 c (List.mem_append_left _ m))⟩) r2.1 n2 (fun c m => ⟨r2.2 c m, A.fresh (fr2 c (List.mem_append_right _ m))⟩) fun c m m' => n3 c m c m' rfl
theorem vs_par (hi0 : i ∉ Φ) (hj0 : j ∉ Φ) (hki : i < κ.length) (hkj : j < κ.length) (hij : i ≠ j) (hc : X.calm = true) (hN : X.N.Nodup) (hi : X.N[i]? = some x) (hj : X.N[j]? = some y) (hx : X.env.scope.names.lookup x = some .local) (hy : X.env.scope.names.lookup y = some .local)
    (ha : PE X a (tV (gd X) T κ k1 f)) (hb : PE X b (tV (gd X) U κ k2 g)) (hw : swappedStores [.Tuple [.Name x px, .Name y py] kt pt] (.Tuple [a, b] kt2 pt2) X.env = pure (some [x, y]))
    (hs : swapsWithSole [.Tuple [.Name x px, .Name y py] kt pt] (.Tuple [a, b] kt2 pt2) pos.line X.env = pure false := by rfl) (hs1 : starEach [a, b] X.env = (false, eval a X.env) :: starEach [b] X.env := by rfl) (hs2 : starEach [b] X.env = (false, eval b X.env) :: starEach [] X.env := by rfl) :
    PS X (.Assign [.Tuple [.Name x px, .Name y py] kt pt] (.Tuple [a, b] kt2 pt2) pos) (tS (gd X) Φ κ ((κ.set i k1).set j k2) κb k (par2 i j f g)) :=
  PS.imp (ps_par hc hN hi hj hij hx hy (pa_cons ha (pa_cons hb pa_nil hs2) hs1) hw hs) fun E σ H ⟨M, P, ρ, Fs, o, hM, R, A, e, q⟩ => by
    unfold par2 at e
    obtain ⟨⟨d, ρ1⟩, e1, e⟩ := Option.bind_eq_some_iff.mp e
    obtain ⟨⟨d2, ρ2⟩, e2, e⟩ := Option.bind_eq_some_iff.mp e
    cases e
    exact two_ok (T := T) (U := U) R A e1 e2 fun v w H1 P1 Fv Fw Fs1 R1 A1 ov nv fv ow nw fw dj => by
      obtain ⟨R2, A2⟩ := set2_at (hM ▸ hi0) (hM ▸ hj0) hki hkj R1 A1 ov nv fv ow nw fw dj
      exact ⟨v, w, rfl, q _ H1 P1 _ R2 A2⟩
theorem OwnK.new {G : Wd} {P : Addr → Prop} {H H' : Hp} {v : V} {d : D} {F : List Addr} (o : OwnK G P H k v d F) (h : ∀ a u, H a = some u → H' a = some u) : OwnK G P H' k v d F := o.ext (Ext.new h) fun _ _ z => z
theorem Fm.At.new {G : Wd} {M : Fm} {P : Addr → Prop} {H H' : Hp} {σ : L2.St} {Fs : Nat → List Addr} (A : M.At G P H σ κ Fs) (h : ∀ a u, H a = some u → H' a = some u) : M.At G P H' σ κ Fs :=
  ⟨A.ext.trans (Ext.new h) fun _ z => z.elim, A.same, A.kin, A.own, fun m hm => (A.late m hm).trans (Ext.late (Ext.new h))⟩
theorem Rep.new {G : Wd} {P : Addr → Prop} {H H' : Hp} {σ : L2.St} {ρ : List D} {Fs : Nat → List Addr} (R : Rep G P H σ ρ κ Fs) (h : ∀ a u, H a = .some u → H' a = .some u) : Rep G P H' σ ρ κ Fs := R.ext (Ext.new h) fun _ _ _ z => z
theorem vs_tup2 (hi0 : i ∉ Φ) (hj0 : j ∉ Φ) (hki : i < κ.length) (hkj : j < κ.length) (hc : X.calm = true) (hN : X.N.Nodup) (hi : X.N[i]? = some x) (hj : X.N[j]? = some y) (hx : Loc X.env.scope x) (hy : Loc X.env.scope y)
    (ha : PE X a (tV (gd X) T κ k1 f)) (hb : PE X b (tV (gd X) U κ k2 g)) (hw : swappedStores [.Tuple [.Name x px, .Name y py] kt pt] (.Tuple [a, b] kt2 pt2) X.env = pure none := by rfl)
    (hs : swapsWithSole [.Tuple [.Name x px, .Name y py] kt pt] (.Tuple [a, b] kt2 pt2) pos.line X.env = pure false := by rfl) (hs1 : starEach [a, b] X.env = (false, eval a X.env) :: starEach [b] X.env := by rfl) (hs2 : starEach [b] X.env = (false, eval b X.env) :: starEach [] X.env := by rfl)
    (hf : X.fn x = true ∨ X.env.scope.names.lookup x = some .local := by first | exact .inl rfl | exact .inr rfl) (hf2 : X.fn y = true ∨ X.env.scope.names.lookup y = some .local := by first | exact .inl rfl | exact .inr rfl)
    (hm1 : (assignEach [.Name x px, .Name y py] X.env).map (·.2) = assign (.Name x px) X.env :: (assignEach [.Name y py] X.env).map (·.2) := by rfl) (hm2 : (assignEach [.Name y py] X.env).map (·.2) = assign (.Name y py) X.env :: (assignEach [] X.env).map (·.2) := by rfl)
    (hn : (assignEach [.Name x px, .Name y py] X.env).length = 2 := by rfl) (hst : (assignEach [.Name x px, .Name y py] X.env).findIdx? (·.1) = none := by rfl) (h1 : (assignEach [.Tuple [.Name x px, .Name y py] kt pt] X.env).map (·.2) = [assign (.Tuple [.Name x px, .Name y py] kt pt) X.env] := by rfl) :
    PS X (.Assign [.Tuple [.Name x px, .Name y py] kt pt] (.Tuple [a, b] kt2 pt2) pos) (tS (gd X) Φ κ ((κ.set i k1).set j k2) κb k (par2 i j f g)) :=
  PS.imp (ps_asg (pe_tup (pa_cons ha (pa_cons hb pa_nil hs2) hs1)) (pg_tup hc (pgs_cons (pg_name hN hi hx hf) (pgs_cons (pg_name hN hj hy hf2) pgs_nil hm2) hm1) hn hst) hs hw h1) fun E σ H ⟨M, P, ρ, Fs, o, hM, R, A, e, q⟩ => by
    unfold par2 at e
    obtain ⟨⟨d, ρ1⟩, e1, e⟩ := Option.bind_eq_some_iff.mp e
    obtain ⟨⟨d2, ρ2⟩, e2, e⟩ := Option.bind_eq_some_iff.mp e
    cases e
    exact two_ok (T := T) (U := U) R A e1 e2 fun v w H1 P1 Fv Fw Fs1 R1 A1 ov nv fv ow nw fw dj => by
      refine ⟨by show 2 ≤ sizeLine; decide, fun p hp => ?_⟩
      have kp := keep_upd (u := .tup [v, w]) hp
      obtain ⟨R2, A2⟩ := set2_at (hM ▸ hi0) (hM ▸ hj0) hki hkj (R1.new kp) (A1.new kp) (ov.new kp) nv fv (ow.new kp) nw fw dj
      exact ⟨p, [v, w], rfl, .inl (.inl upd_same), rfl, v, [w], rfl, w, [], rfl, rfl, q _ _ P1 _ R2 A2⟩
/-- three -/
theorem three_ok {M : Fm} {P : Addr → Prop} {H : Hp} {σ : L2.St} {ρ ρ1 ρ2 ρ3 : List D} {Fs : Nat → List Addr} {G : Wd} {d e d3 : D} (R : Rep G P H σ ρ κ Fs) (A : M.At G P H σ κ Fs) (e1 : f ρ = some (d, ρ1)) (e2 : g ρ1 = some (e, ρ2)) (e3 : h ρ2 = some (d3, ρ3)) {Q : List V → Hp → Prop}
    (hi : i ∉ M.Φ) (hj : j ∉ M.Φ) (hl : l ∉ M.Φ) (hk : i < κ.length) (hk2 : j < κ.length) (hk3 : l < κ.length)
    (q : ∀ v w u H1 P1 Fs1, (∀ H2, (∀ a o, H1 a = some o → H2 a = some o) → Rep G P1 H2 (((σ.set i (some v)).set j (some w)).set l (some u)) (((ρ3.set i d).set j e).set l d3) (((κ.set i k1).set j k2).set l k3) Fs1 ∧ M.At G P1 H2 (((σ.set i (some v)).set j (some w)).set l (some u)) (((κ.set i k1).set j k2).set l k3) Fs1) → Q [v, w, u] H1) :
    argsT G κ [odE T k1 f, odE U k2 g, odE W k3 h] σ H Q := by
  have wf : WfSeq κ [odE T k1 f, odE U k2 g, odE W k3 h] := ⟨⟨fun _ h => by cases h⟩, fun _ h => (by cases h), ⟨fun _ h => by cases h⟩, fun _ h => (by cases h), ⟨fun _ h => by cases h⟩, fun _ h => (by cases h), trivial⟩
  refine args_ok _ wf R (ds := [d, e, d3]) (ρ' := ρ3) (by simp only [seqF, e1, e2, e3, Option.bind_some]) fun vs H1 P1 Gs Fs1 R1 qd nd fr E st gr => ?_
  have A1 := A.step E gr
  cases qd with
  | @cons _ v _ Fv _ _ _ _ r1 qd => cases qd with
    | @cons _ w _ Fw _ _ _ _ r2 qd => cases qd with
      | @cons _ u _ Fu _ _ _ _ r3 qd =>
        cases qd
        have nd2 : (Fv ++ (Fw ++ (Fu ++ []))).Nodup := nd
        rw [List.append_nil] at nd2
        obtain ⟨n1, n23, n4⟩ := List.nodup_append.mp nd2
        obtain ⟨n2, n3, n5⟩ := List.nodup_append.mp n23
        have fr2 : ∀ c ∈ Fv ++ (Fw ++ Fu), H c = none := fun c m => fr c (by show c ∈ Fv ++ (Fw ++ (Fu ++ [])); rw [List.append_nil]; exact m)
        have frv : ∀ c ∈ Fv, (¬ P1 c ∧ ∀ i, c ∉ Fs1 i) ∧ M.H0 c = none := fun c m => ⟨r1.2 c m, A.fresh (fr2 c (List.mem_append_left _ m))⟩
        have frw : ∀ c ∈ Fw, (¬ P1 c ∧ ∀ i, c ∉ Fs1 i) ∧ M.H0 c = none := fun c m => ⟨r2.2 c m, A.fresh (fr2 c (List.mem_append_right _ (List.mem_append_left _ m)))⟩
        have fru : ∀ c ∈ Fu, (¬ P1 c ∧ ∀ i, c ∉ Fs1 i) ∧ M.H0 c = none := fun c m => ⟨r3.2 c m, A.fresh (fr2 c (List.mem_append_right _ (List.mem_append_right _ m)))⟩
        obtain ⟨R2, A2⟩ := set2_at hi hj hk hk2 R1 A1 r1.1 n1 frv r2.1 n2 frw fun c m m' => n4 c m c (List.mem_append_left _ m') rfl
        have R3 := R2.set (i := l) (by simpa using hk3) r3.1 n3 (fun c m => (fru c m).1.1) fun n hn c m m' => by
          by_cases qj : n = j
          · rw [qj, setF_same] at m'
            exact n5 c m' c m rfl
          · rw [setF_ne qj] at m'
            by_cases qi : n = i
            · rw [qi, setF_same] at m'
              exact n4 c m' c (List.mem_append_right _ m) rfl
            · rw [setF_ne qi] at m'
              exact (fru c m).1.2 n m'
        have A3 := A2.set (k := k3) (v := u) hl fun c m => (fru c m).2
        exact q v w u H1 P1 _ fun H2 kp => ⟨R3.new kp, A3.new kp⟩
theorem vs_par3 (hi0 : i ∉ Φ) (hj0 : j ∉ Φ) (hl0 : l ∉ Φ) (hki : i < κ.length) (hkj : j < κ.length) (hkl : l < κ.length) (hij : i ≠ j) (hil : i ≠ l) (hjl : j ≠ l) (hc : X.calm = true) (hN : X.N.Nodup) (hi : X.N[i]? = some x) (hj : X.N[j]? = some y) (hl : X.N[l]? = some z) (hx : X.env.scope.names.lookup x = some .local) (hy : X.env.scope.names.lookup y = some .local) (hz : X.env.scope.names.lookup z = some .local)
    (ha : PE X a (tV (gd X) T κ k1 f)) (hb : PE X b (tV (gd X) U κ k2 g)) (hcc : PE X c (tV (gd X) W κ k3 h)) (hw : swappedStores [.Tuple [.Name x px, .Name y py, .Name z pz] kt pt] (.Tuple [a, b, c] kt2 pt2) X.env = pure (some [x, y, z]))
    (hs : swapsWithSole [.Tuple [.Name x px, .Name y py, .Name z pz] kt pt] (.Tuple [a, b, c] kt2 pt2) pos.line X.env = pure false := by rfl) (hs1 : starEach [a, b, c] X.env = (false, eval a X.env) :: starEach [b, c] X.env := by rfl) (hs2 : starEach [b, c] X.env = (false, eval b X.env) :: starEach [c] X.env := by rfl) (hs3 : starEach [c] X.env = (false, eval c X.env) :: starEach [] X.env := by rfl) :
    PS X (.Assign [.Tuple [.Name x px, .Name y py, .Name z pz] kt pt] (.Tuple [a, b, c] kt2 pt2) pos) (tS (gd X) Φ κ (((κ.set i k1).set j k2).set l k3) κb k (par3 i j l f g h)) :=
  PS.imp (ps_par3 hc hN hi hj hl hij hil hjl hx hy hz (pa_cons ha (pa_cons hb (pa_cons hcc pa_nil hs3) hs2) hs1) hw hs) fun E σ H ⟨M, P, ρ, Fs, o, hM, R, A, e, q⟩ => by
    unfold par3 at e
    obtain ⟨⟨d, ρ1⟩, e1, e⟩ := Option.bind_eq_some_iff.mp e
    obtain ⟨⟨d2, ρ2⟩, e2, e⟩ := Option.bind_eq_some_iff.mp e
    obtain ⟨⟨d3, ρ3⟩, e3, e⟩ := Option.bind_eq_some_iff.mp e
    cases e
    exact three_ok (T := T) (U := U) (W := W) R A e1 e2 e3 (hM ▸ hi0) (hM ▸ hj0) (hM ▸ hl0) hki hkj hkl fun v w u H1 P1 Fs1 z => by
      obtain ⟨R2, A2⟩ := z H1 fun _ _ h => h
      exact ⟨v, w, u, rfl, q _ H1 P1 _ R2 A2⟩
theorem vs_tup3 (hi0 : i ∉ Φ) (hj0 : j ∉ Φ) (hl0 : l ∉ Φ) (hki : i < κ.length) (hkj : j < κ.length) (hkl : l < κ.length) (hc : X.calm = true) (hN : X.N.Nodup) (hi : X.N[i]? = some x) (hj : X.N[j]? = some y) (hl : X.N[l]? = some z) (hx : Loc X.env.scope x) (hy : Loc X.env.scope y) (hz : Loc X.env.scope z)
    (ha : PE X a (tV (gd X) T κ k1 f)) (hb : PE X b (tV (gd X) U κ k2 g)) (hcc : PE X c (tV (gd X) W κ k3 h)) (hw : swappedStores [.Tuple [.Name x px, .Name y py, .Name z pz] kt pt] (.Tuple [a, b, c] kt2 pt2) X.env = pure none := by rfl)
    (hs : swapsWithSole [.Tuple [.Name x px, .Name y py, .Name z pz] kt pt] (.Tuple [a, b, c] kt2 pt2) pos.line X.env = pure false := by rfl) (hs1 : starEach [a, b, c] X.env = (false, eval a X.env) :: starEach [b, c] X.env := by rfl) (hs2 : starEach [b, c] X.env = (false, eval b X.env) :: starEach [c] X.env := by rfl) (hs3 : starEach [c] X.env = (false, eval c X.env) :: starEach [] X.env := by rfl)
    (hf : X.fn x = true ∨ X.env.scope.names.lookup x = some .local := by first | exact .inl rfl | exact .inr rfl) (hf2 : X.fn y = true ∨ X.env.scope.names.lookup y = some .local := by first | exact .inl rfl | exact .inr rfl) (hf3 : X.fn z = true ∨ X.env.scope.names.lookup z = some .local := by first | exact .inl rfl | exact .inr rfl)
    (hm1 : (assignEach [.Name x px, .Name y py, .Name z pz] X.env).map (·.2) = assign (.Name x px) X.env :: (assignEach [.Name y py, .Name z pz] X.env).map (·.2) := by rfl) (hm2 : (assignEach [.Name y py, .Name z pz] X.env).map (·.2) = assign (.Name y py) X.env :: (assignEach [.Name z pz] X.env).map (·.2) := by rfl) (hm3 : (assignEach [.Name z pz] X.env).map (·.2) = assign (.Name z pz) X.env :: (assignEach [] X.env).map (·.2) := by rfl)
    (hn : (assignEach [.Name x px, .Name y py, .Name z pz] X.env).length = 3 := by rfl) (hst : (assignEach [.Name x px, .Name y py, .Name z pz] X.env).findIdx? (·.1) = none := by rfl) (h1 : (assignEach [.Tuple [.Name x px, .Name y py, .Name z pz] kt pt] X.env).map (·.2) = [assign (.Tuple [.Name x px, .Name y py, .Name z pz] kt pt) X.env] := by rfl) :
    PS X (.Assign [.Tuple [.Name x px, .Name y py, .Name z pz] kt pt] (.Tuple [a, b, c] kt2 pt2) pos) (tS (gd X) Φ κ (((κ.set i k1).set j k2).set l k3) κb k (par3 i j l f g h)) :=
  PS.imp (ps_asg (pe_tup (pa_cons ha (pa_cons hb (pa_cons hcc pa_nil hs3) hs2) hs1)) (pg_tup hc (pgs_cons (pg_name hN hi hx hf) (pgs_cons (pg_name hN hj hy hf2) (pgs_cons (pg_name hN hl hz hf3) pgs_nil hm3) hm2) hm1) hn hst) hs hw h1) fun E σ H ⟨M, P, ρ, Fs, o, hM, R, A, e, q⟩ => by
    unfold par3 at e
    obtain ⟨⟨d, ρ1⟩, e1, e⟩ := Option.bind_eq_some_iff.mp e
    obtain ⟨⟨d2, ρ2⟩, e2, e⟩ := Option.bind_eq_some_iff.mp e
    obtain ⟨⟨d3, ρ3⟩, e3, e⟩ := Option.bind_eq_some_iff.mp e
    cases e
    exact three_ok (T := T) (U := U) (W := W) R A e1 e2 e3 (hM ▸ hi0) (hM ▸ hj0) (hM ▸ hl0) hki hkj hkl fun v w u H1 P1 Fs1 z => by
      refine ⟨by show 3 ≤ sizeLine; decide, fun p hp => ?_⟩
      obtain ⟨R2, A2⟩ := z _ (keep_upd (u := .tup [v, w, u]) hp)
      exact ⟨p, [v, w, u], rfl, .inl (.inl upd_same), rfl, v, [w, u], rfl, w, [u], rfl, u, [], rfl, rfl, q _ _ P1 _ R2 A2⟩
end
/-! ### words in short -/
theorem zero_out {Φ κ : List Nat} (h : ((List.range κ.length).all fun i => Φ.contains i || κ.getD i 0 == 0) = true) : ∀ i, i ∉ Φ → κ.getD i 0 = 0 := fun i hi => by
  by_cases c : i < κ.length
  · have := List.all_eq_true.mp h i (List.mem_range.mpr c)
    rw [Bool.or_eq_true] at this
    rcases this with z | z
    · exact absurd (by simpa using z) hi
    · exact LawfulBEq.eq_of_beq z
  · rw [List.getD_eq_getElem?_getD, List.getElem?_eq_none (by omega)]
    rfl
section
variable {X : Cx} {κ : List Nat} {x : Str} {pos : Pos}
theorem xv (i : Nat) (hk : κ.getD i 0 = 0 := by decide) (hN : X.N[i]? = some x := by rfl) (hv : Vis X.env.scope x := by first | exact Or.inl rfl | exact Or.inr (Or.inl rfl) | exact Or.inr (Or.inr rfl)) (hd : (x == ("__debug__" : Str)) = false := by decide) (hcd : (x == ("__classdict__" : Str)) = false := by decide) : PE X (.Name x pos) (tV (gd X) [] κ 0 (rd i)) := ve_var hk hN hv hd hcd
theorem xo (i : Nat) (hN : X.N[i]? = some x := by rfl) (hv : Vis X.env.scope x := by first | exact Or.inl rfl | exact Or.inr (Or.inl rfl) | exact Or.inr (Or.inr rfl)) (hd : (x == ("__debug__" : Str)) = false := by decide) (hcd : (x == ("__classdict__" : Str)) = false := by decide) : VO X κ (.Name x pos) (odS κ i) := vo_var hN hv hd hcd
/-- a def that may be called -/
structure CalD (P : Program) (w : World) (K : PySem.W.Frag) (mg : Str → Option Value) (base : Heap) (lv : Nat) (x : Str) (sp : Sp) : Prop where
  ex : ∃ (f : Addr) (fd : FuncData) (ps : List Str), FnOk P w K mg base CX0 lv f fd ps sp ∧ mg x = some (.ref f) ∧ PySem.W.keepIn K (.ref f) = true ∧ Binds K fd ps []
variable {p : Pos} {e : Expr} {es : List Expr} {k lv : Nat} {os : List Od} {Tc κp : List Nat} {fn : Sem0}
theorem CalD.mono {P : Program} {w : World} {K : PySem.W.Frag} {mg : Str → Option Value} {base : Heap} {lv lv' : Nat} {x : Str} {sp : Sp} (C : CalD P w K mg base lv x sp) (h : lv ≤ lv') : CalD P w K mg base lv' x sp :=
  let ⟨f, fd, ps, F, a, b, c⟩ := C.ex; ⟨f, fd, ps, F.mono h, a, b, c⟩
theorem ve_fn (C : CalD X.prog X.w X.K X.mg X.base lv x (spD (gd X) Tc κp k fn)) (hr : Room lv X.A) (ha : VA X κ (e :: es) os) (hg : Gl X x := by rfl) (hκ : os.map (·.k) = κp := by rfl) (nd : (alS os).Nodup := by decide) (hdb : (x == ("__debug__" : Str)) = false := by decide) (he : starEach (e :: es) X.env = (false, eval e X.env) :: starEach es X.env := by rfl) (hpl : (backTo pos (starEach es X.env)).any (·.1) = false := by rfl) :
    PE X (.Call (.Name x p) (e :: es) [] pos) (tV (gd X) (Ts os ++ alS os) κ k (callF os fn)) :=
  let ⟨f, fd, ps, F, a, b, c⟩ := C.ex; ve_call F hr hg a b c ha hκ nd hdb he hpl
end
/-- the law's own promise out of what it computes -/
theorem sp_of {K : PySem.W.Frag} {P : Program} {w : World} {F : Sem0} (T : ∀ ns : List Int, ns.length ≤ 63 → ∃ ρ, F [.lst (ns.map D.int)] = some (.bl true, ρ)) (vs : List V) (H : Hp) (Q : VK) (E : XK)
    (h : ∃ (a : Addr) (ns : List Int), vs = [.ref a] ∧ SqL K H a (ns.map V.int) ∧ ns.length ≤ 63 ∧ ∀ H', Q (.bl true) H') : spD ⟨K, P, w⟩ [] [0] 0 F vs H Q E := by
  obtain ⟨a, ns, rfl, hs, hl, q⟩ := h
  obtain ⟨ρ, e⟩ := T ns hl
  let P0 : Addr → Prop := fun c => c = a ∧ H a = some (.lst (ns.map V.int))
  have dl : ∀ ms : List Int, DenL ⟨K, P, w⟩ P0 H (ms.map V.int) (ms.map D.int) := fun ms => by
    induction ms with
    | nil => exact .nil
    | cons m ms ih => exact .cons (.int m) ih
  have dn : Den ⟨K, P, w⟩ P0 H (.ref a) (.lst (ns.map D.int)) := by
    refine .lst ?_ (dl ns)
    rcases hs with (hs | hs) | hs
    · exact .inl ⟨⟨rfl, hs⟩, hs⟩
    · exact .inr (.inl hs)
    · exact .inr (.inr hs)
  refine ⟨P0, [.lst (ns.map D.int)], fun _ => [], .bl true, ρ, ⟨rfl, rfl, fun i d hi hu => ?_, fun _ _ => rfl, fun _ _ _ h _ => (by cases h), fun _ => List.nodup_nil, fun _ _ h => (by cases h), fun c hc => ⟨.lst (ns.map V.int), by rw [hc.1]; exact hc.2, trivial⟩⟩, e, fun v H' P' F' Fs' R o nd fr E st gr => ?_⟩
  · cases i with
    | zero =>
      cases hi
      exact ⟨.ref a, rfl, dn, rfl⟩
    | succ i => simp at hi
  · rw [(bl_own o).1]
    exact q H'
end VS

set_option Elab.async false
set_option linter.all false
set_option maxRecDepth 100000
set_option maxHeartbeats 2000000
/-! x[::-1] of lists and tuples. -/
namespace VS
open PySem PySem.Spec PyProof.Rows L2 HT
section
variable {prog : Program} {w : World} {A : Around} {E : Value → Shared → Prop} {s : Shared}
theorem adjust_rev (n : Nat) : Builtin.Slice.sliceAdjust none none (-1) (n : Int) = ((n : Int) - 1, -1) := by
  unfold Builtin.Slice.sliceAdjust
  simp
theorem places_rev (n : Nat) : Builtin.Slice.slicePlaces ((n : Int) - 1) (-1) (-1) = n := by
  unfold Builtin.Slice.slicePlaces
  have h1 : ¬ ((-1 : Int) > 0) := by omega
  simp only [h1, if_false]
  by_cases h : (n : Int) - 1 > -1
  · rw [if_pos h]
    have : ((n : Int) - 1 - -1 - 1) / (- -1) + 1 = n := by
      rw [show (- -1 : Int) = 1 by decide, Int.ediv_one]
      omega
    rw [this]
    omega
  · rw [if_neg h]
    omega
theorem sliceApplied_rev {sl : Addr} {vs : Value} {n : Nat} {Q : Int × Int × Nat → Shared → Prop} (hs : s.heap.IsSliceOf sl .none .none vs) (ps : IsPart vs (some (-1)))
    (h : Q ((n : Int) - 1, -1, n) s) : wpAny (model prog w) A (Builtin.Slice.sliceApplied (.ref sl) (pure (n : Int))) Q E s := by
  obtain ⟨os, hos, hcs, hds⟩ := id hs
  unfold Builtin.Slice.sliceApplied Builtin.Slice.sliceFields
  refine wpAny_bind (wpAny_bind (wpAny_field hos hds (x := .none) rfl (wpAny_bind (wpAny_field hos hds (x := .none) rfl (wpAny_bind (wpAny_field hos hds (x := vs) rfl (wpAny_pure ?_)))))))
  refine wpAny_bind (slicePart_ ps ?_)
  show wpAny _ _ (if ((-1 : Int) == 0) = true then _ else _) _ _ s
  rw [if_neg (by decide)]
  refine wpAny_bind (slicePart_none (wpAny_bind (slicePart_none (wpAny_bind (wpAny_pure ?_)))))
  show wpAny _ _ (match Builtin.Slice.sliceAdjust none none (-1) (n : Int) with | (lo, hi) => pure (lo, (-1 : Int), Builtin.Slice.slicePlaces lo hi (-1))) _ _ s
  rw [adjust_rev]
  show wpAny _ _ (pure ((n : Int) - 1, (-1 : Int), Builtin.Slice.slicePlaces ((n : Int) - 1) (-1) (-1))) _ _ s
  rw [places_rev]
  exact wpAny_pure h
theorem filterMap_eq {α β : Type} {f g : α → Option β} : ∀ {l : List α}, (∀ x, x ∈ l → f x = g x) → l.filterMap f = l.filterMap g
  | [], _ => rfl
  | x :: xs, h => by
    rw [List.filterMap_cons, List.filterMap_cons, h x List.mem_cons_self, filterMap_eq fun y m => h y (List.mem_cons_of_mem _ m)]
theorem pick_rev (xs : Array Value) : ((List.range xs.size).filterMap fun (m : Nat) => xs[(((xs.size : Nat) : Int) - 1 + (m : Int) * (-1)).toNat]?).toArray = xs.toList.reverse.toArray := by
  have e : (List.range xs.size).filterMap (fun (m : Nat) => xs[(((xs.size : Nat) : Int) - 1 + (m : Int) * (-1)).toNat]?) = ((List.range xs.size).map fun k => xs.size - 1 - k).filterMap (xs[·]?) := by
    rw [List.filterMap_map]
    apply filterMap_eq
    intro m hm
    have := List.mem_range.mp hm
    have e2 : (((xs.size : Nat) : Int) - 1 + (m : Int) * (-1)).toNat = xs.size - 1 - m := by omega
    rw [e2]
    rfl
  rw [e, PySem.W.krv_range, List.filterMap_reverse, PySem.W.krv_all]
theorem getItem_tuple_rev {t sl : Addr} {items : Array Value} {vs : Value} {Q : Value → Shared → Prop} (ht : IsTup s.heap t items) (hs : s.heap.IsSliceOf sl .none .none vs) (ps : IsPart vs (some (-1)))
    (h : Q (.ref s.heap.objs.size) { s with heap := s.heap.push { cls := .type "tuple", data := .seq items.toList.reverse.toArray } }) (hsz : items.size ≤ sizeLine) : wpAny (model prog w) A (getItem (.ref t) (.ref sl)) Q E s := by
  have htake : sizeOk (.seq items.toList.reverse.toArray) := by
    show items.toList.reverse.toArray.size ≤ sizeLine
    rw [List.size_toArray, List.length_reverse, Array.length_toList]
    exact hsz
  obtain ⟨os, hos, hcs, hds⟩ := id hs
  have hTs : s.TypeIs (.ref sl) "slice" := ⟨os, hos, hcs⟩
  unfold getItem
  try with_reducible refine wpAny_holding ?_
  first | refine wpAny_bind (wpAny_pure ?_) | skip
  refine wpAny_bind (wpAny_sequenceKey ht.typeIs (by decide) ?_)
  refine wpAny_bind (wpAny_callSpecial?_slot (name := Str.ofString "__getitem__") ht.typeIs PyProof.Rows.slot_tuple_getitem
    (wpAny_call_entry PyProof.Rows.slot_tuple_getitem ht.typeIs entry_tuple_getitem ?_ (args_tuple_getitem _ _)))
  show wpAny _ _ (Builtin.Tuple.tupleItemsOf (.ref t) >>= _) _ _ s
  refine wpAny_bind (tupleItemsOf_ ht ?_)
  refine wpAny_bind (wpAny_typeOf hTs ?_)
  rw [if_pos (by decide)]
  refine wpAny_bind (sliceApplied_rev hs ps ?_)
  have hno : ¬ ((((items.size : Nat) : Int) - 1 == 0 && (-1 : Int) == 1 && items.size == items.size) = true) := by
    intro q
    rw [Bool.and_eq_true, Bool.and_eq_true] at q
    have q1 : (-1 : Int) = 1 := LawfulBEq.eq_of_beq q.1.2
    omega
  show wpAny _ _ (if (((items.size : Nat) : Int) - 1 == 0 && (-1 : Int) == 1 && items.size == items.size) = true then _ else _) _ _ s
  rw [if_neg hno, pick_rev]
  first
    | exact wpAny_bind (m := Builtin.Tuple.tupleExact _) (wpAny_newObj_type (wpAny_pure ⟨_, rfl, wpAny_pure h⟩) htake)
    | exact wpAny_bind (m := Builtin.Tuple.tupleExact _) (wpAny_newObj_type (wpAny_bind (wpAny_pure (wpAny_pure ⟨_, rfl, wpAny_pure h⟩))) htake)
    | exact wpAny_bind (wpAny_bind (m := Builtin.Tuple.tupleExact _) (wpAny_newObj_type (wpAny_pure (wpAny_pure ⟨_, rfl, wpAny_pure h⟩)) htake))
    | exact wpAny_bind (wpAny_bind (m := Builtin.Tuple.tupleExact _) (wpAny_newObj_type (wpAny_pure ⟨_, rfl, wpAny_pure h⟩) htake))
end
def rRevS (K : PySem.W.Frag) : V → Hp → VK → Prop := fun x H Q => ∃ a xs, x = .ref a ∧ ((SqL K H a xs ∧ ∀ p, H p = none → Q (.ref p) (upd H p (.lst xs.reverse))) ∨ (SqT K H a xs ∧ ∀ p, H p = none → Q (.ref p) (upd H p (.tup xs.reverse))))
section
variable {X : Cx} {e : Expr} {te : TE} {pos p2 p3 p4 : Pos} {j : Nat}
theorem pe_revS (he : PE X e te) : PE X (.Subscript e (.Slice none none (some (.UnaryOp .USub (.Constant (.int 1) j p4) p3)) p2) pos) (tUn (rRevS X.K) te) := by
  have hneg : PO X (some (.UnaryOp .USub (.Constant (.int 1) j p4) p3)) (tPart (tUn (rU fun i => .int (-i)) (tC (.int 1)))) := po_some (pe_un un_neg pe_int)
  refine ⟨fun pins s σ H Q I h => ?_⟩
  refine Subscript_ (thn (he.run pins s σ H _ I h) fun v s1 ⟨x, H1, I1, r1, a, xs, ex, q1⟩ => ?_)
  subst ex
  refine wpAny_Slice ?_
  rw [evalPart_none]
  refine wpAny_pure (wpAny_pure ?_)
  refine thn (hneg.run pins s1 σ H1 (fun o H' => o = some (-1) ∧ H' = H1) I1 ⟨1, rfl, -1, rfl, rfl, rfl⟩) fun vs s3 ⟨o, H3, I3, ps, e3, e4⟩ => ?_
  subst e3
  subst e4
  cases r1
  have I4 : Inv X pins σ H3 { s3 with heap := s3.heap.push { cls := .type "slice", data := .fields #[.none, .none, vs] } } := I3.kept (t' := s3.toks) fun b ob q => Heap.get?_push_of_some _ q
  show wpAny (model X.prog X.w) X.A (subscriptTail e (.Slice none none (some (.UnaryOp .USub (.Constant (.int 1) j p4) p3)) p2) (.ref a) (.ref s3.heap.objs.size)) (EP X pins σ Q) X.xe { s3 with heap := s3.heap.push { cls := .type "slice", data := .fields #[.none, .none, vs] } }
  rcases q1 with ⟨hq, q⟩ | ⟨hq, q⟩
  · obtain ⟨its, rv, pl, hz⟩ := I4.list hq
    have l1 := rv.length
    refine tail_any (ops := [.ref a, .ref s3.heap.objs.size]) pl.isList.typeIs slot_list_getitem.lookup (wpAny_getItem_list_slice pl.isList (Heap.IsSliceOf.new ..) .none .none ps (by decide) ?_ (by simp only [List.size_toArray]; omega)) (by with_unfolding_all rfl)
    rw [PySem.W.krv_pick]
    exact ⟨.ref _, _, I4.lnew (t' := s3.toks) (rv.reverse) (by rw [List.length_reverse]; exact hz), rfl, q _ I4.fresh⟩
  · obtain ⟨its, rv, pl, hz⟩ := I4.tuple hq
    have l1 := rv.length
    refine tail_any (ops := [.ref a, .ref s3.heap.objs.size]) pl.typeIs PyProof.Rows.slot_tuple_getitem.lookup (getItem_tuple_rev pl (Heap.IsSliceOf.new ..) ps ?_ (by simp only [List.size_toArray]; omega)) (by with_unfolding_all rfl)
    refine ⟨.ref _, _, I4.laid (t' := s3.toks) (o := .tup xs.reverse) (fun b ob q => Heap.get?_push_of_some _ q) (Nat.le_refl _) ⟨by rw [List.length_reverse]; exact hz, its.reverse, rv.reverse, IsTup.new _ _⟩, rfl, q _ I4.fresh⟩
end
def slRD : List D → Option D
  | [.lst xs] => some (.lst xs.reverse)
  | [.tup xs] => some (.tup xs.reverse)
  | _ => none
section
variable {X : Cx} {κ : List Nat} {a : Expr} {oa : Od} {pos p2 p3 p4 : Pos} {j : Nat}
theorem O_rev {G : Wd} (ha : oa.k ≤ 1) : OpS G [oa] 1 slRD (r1v (rRevS G.K)) := by
  intro κ P H σ ρ Fs vs ds Gs d Q R qd nd e q
  cases qd with | @cons _ _ a _ _ _ _ _ r1 qd =>
  cases qd
  cases a <;> try cases e
  · obtain ⟨a, vs, rfl, a1, a2⟩ := r1.1.tupI
    exact ⟨a, vs, rfl, .inr ⟨a1, fun p hp => fin_tup q hp a2.reverse⟩⟩
  · obtain ⟨a, vs, rfl, a1, a2⟩ := r1.1.kids ha
    exact ⟨a, vs, rfl, .inl ⟨a1, fun p hp => fin_lst q hp a2.reverse⟩⟩
theorem ve_slR (ha : VO X κ a oa) (h : oa.k ≤ 1) : PE X (.Subscript a (.Slice none none (some (.UnaryOp .USub (.Constant (.int 1) j p4) p3)) p2) pos) (tV (gd X) (Ts [oa]) κ 1 (opF slRD [oa])) :=
  (pe_revS ha.pe).imp fun σ H Q w => op_ok (wf1 ha) (O_rev h) w
end
end VS

set_option Elab.async false
set_option linter.all false
set_option maxRecDepth 100000
/-! min and max of three ints. -/
namespace VS
open PySem PySem.Spec PyProof.Rows L2
theorem vals3y {x y z : V} {us : List Value} (r : Vals [x, y, z] us) : ∃ u w' t', us = [u, w', t'] ∧ RelV x u ∧ RelV y w' ∧ RelV z t' := by
  cases r with | cons r1 r => cases r with | cons r2 r => cases r with | cons r3 r =>
  cases r
  exact ⟨_, _, _, rfl, r1, r2, r3⟩
def mx3 (a b c : Int) : Int := if c > (if b > a then b else a) then c else (if b > a then b else a)
def mn3 (a b c : Int) : Int := if c < (if b < a then b else a) then c else (if b < a then b else a)
theorem call_max3 {X : Cx} (hc : X.calm = true) : CallR X (.builtin "max") (fun xs H Q => ∃ i j k, xs = [.int i, .int j, .int k] ∧ Q (.int (mx3 i j k)) H) := by
  intro pins s σ H xs us Q I r h
  obtain ⟨i, j, k, rfl, q⟩ := h
  obtain ⟨u, w', t', rfl, ⟨t1, rfl⟩, ⟨t2, rfl⟩, ⟨t3, rfl⟩⟩ := vals3y r
  refine max_three_ints (I.ok.hd hc) fun h' tk kk => ⟨_, H, I.kept kk, ?_, q⟩
  unfold mx3
  split <;> split <;> exact ⟨_, rfl⟩
theorem call_min3 {X : Cx} (hc : X.calm = true) : CallR X (.builtin "min") (fun xs H Q => ∃ i j k, xs = [.int i, .int j, .int k] ∧ Q (.int (mn3 i j k)) H) := by
  intro pins s σ H xs us Q I r h
  obtain ⟨i, j, k, rfl, q⟩ := h
  obtain ⟨u, w', t', rfl, ⟨t1, rfl⟩, ⟨t2, rfl⟩, ⟨t3, rfl⟩⟩ := vals3y r
  refine min_three_ints (I.ok.hd hc) fun h' tk kk => ⟨_, H, I.kept kk, ?_, q⟩
  unfold mn3
  split <;> split <;> exact ⟨_, rfl⟩
section
variable {G : Wd} {oa ob oc : Od} {k : Nat}
def i3 (f : Int → Int → Int → Int) : List D → Option D
  | [.int i, .int j, .int l] => some (.int (f i j l))
  | _ => none
theorem O_three {f : Int → Int → Int → Int} : OpS G [oa, ob, oc] k (i3 f) (fun xs H Q => ∃ i j l, xs = [.int i, .int j, .int l] ∧ Q (.int (f i j l)) H) := by
  intro κ P H σ ρ Fs vs ds Gs d Q R qd nd e q
  cases qd with | @cons _ _ a _ _ _ _ _ r1 qd => cases qd with | @cons _ _ b _ _ _ _ _ r2 qd => cases qd with | @cons _ _ c _ _ _ _ _ r3 qd =>
  cases qd
  cases a <;> try cases e
  cases b <;> try cases e
  cases c <;> try cases e
  exact ⟨_, _, _, by rw [int_own r1.1, int_own r2.1, int_own r3.1], fin_flat q (.int _) rfl⟩
def max3D := i3 mx3
def min3D := i3 mn3
theorem O_max3 : OpS G [oa, ob, oc] k max3D (fun xs H Q => ∃ i j l, xs = [.int i, .int j, .int l] ∧ Q (.int (mx3 i j l)) H) := O_three
theorem O_min3 : OpS G [oa, ob, oc] k min3D (fun xs H Q => ∃ i j l, xs = [.int i, .int j, .int l] ∧ Q (.int (mn3 i j l)) H) := O_three
end
end VS

set_option Elab.async false
set_option linter.all false
set_option maxRecDepth 100000
/-! An operand that is a slot's own value, of kind k. -/
namespace VS
open PySem PySem.Spec PyProof.Rows L2
def odK (k i : Nat) : Od := ⟨some i, [], k, rd i⟩
end VS

set_option Elab.async false
set_option linter.all false
set_option maxRecDepth 100000
/-! What the data semantics yields: one step a lemma, for simp. -/
namespace VS
open PySem PySem.Spec PyProof.Rows L2

/-! ### continuations, without binders -/
def contS : Option Out → SemS → Option Out
  | some (.nx ρ), t => t ρ
  | o, _ => o
theorem seqS_ap (s t : SemS) (ρ : List D) : seqS s t ρ = contS (s ρ) t := by
  unfold seqS
  cases e : s ρ with
  | none => rfl
  | some o => cases o <;> rfl
theorem contS_nx (ρ : List D) (t : SemS) : contS (some (.nx ρ)) t = t ρ := id rfl
theorem contS_rt (d : D) (ρ : List D) (t : SemS) : contS (some (.rt d ρ)) t = some (.rt d ρ) := id rfl
theorem contS_bk (ρ : List D) (t : SemS) : contS (some (.bk ρ)) t = some (.bk ρ) := id rfl
theorem contS_ct (ρ : List D) (t : SemS) : contS (some (.ct ρ)) t = some (.ct ρ) := id rfl
theorem nilS_ap (ρ : List D) : nilS ρ = some (.nx ρ) := id rfl
theorem killS_ap (i : Nat) (s : SemS) (ρ : List D) : killS i s ρ = s (ρ.set i .und) := id rfl
def setC (i : Nat) : Option (D × List D) → Option Out
  | some (d, ρ) => some (.nx (ρ.set i d))
  | none => none
theorem setS_ap (i : Nat) (f : Sem0) (ρ : List D) : setS i f ρ = setC i (f ρ) := by
  unfold setS; cases f ρ <;> rfl
theorem setC_so (i : Nat) (d : D) (ρ : List D) : setC i (some (d, ρ)) = some (.nx (ρ.set i d)) := id rfl
def dropC : Option (D × List D) → Option Out
  | some (_, ρ) => some (.nx ρ)
  | none => none
theorem dropS_ap (f : Sem0) (ρ : List D) : dropS f ρ = dropC (f ρ) := by
  unfold dropS; cases f ρ <;> rfl
theorem dropC_so (d : D) (ρ : List D) : dropC (some (d, ρ)) = some (.nx ρ) := id rfl
def retC : Option (D × List D) → Option Out
  | some (d, ρ) => some (.rt d ρ)
  | none => none
theorem retS_ap (f : Sem0) (ρ : List D) : retS f ρ = retC (f ρ) := by
  unfold retS; cases f ρ <;> rfl
theorem retC_so (d : D) (ρ : List D) : retC (some (d, ρ)) = some (.rt d ρ) := id rfl
theorem retN_ap (ρ : List D) : retN ρ = some (.rt .non ρ) := id rfl
theorem bkS_ap (ρ : List D) : bkS ρ = some (.bk ρ) := id rfl
theorem ctS_ap (ρ : List D) : ctS ρ = some (.ct ρ) := id rfl
def ifC : Option (Bool × List D) → SemS → SemS → Option Out
  | some (true, ρ), s, _ => s ρ
  | some (false, ρ), _, t => t ρ
  | none, _, _ => none
theorem ifS_ap (c : Tst) (s t : SemS) (ρ : List D) : ifS c s t ρ = ifC (c ρ) s t := by
  unfold ifS
  cases c ρ with
  | none => rfl
  | some p => obtain ⟨b, r⟩ := p; cases b <;> rfl
theorem ifC_t (ρ : List D) (s t : SemS) : ifC (some (true, ρ)) s t = s ρ := id rfl
theorem ifC_f (ρ : List D) (s t : SemS) : ifC (some (false, ρ)) s t = t ρ := id rfl
theorem ifC_b (b : Bool) (ρ : List D) (s t : SemS) : ifC (some (b, ρ)) s t = if b = true then s ρ else t ρ := by cases b <;> rfl
def forC : Option (List D × List D) → Tgt → SemS → Option Out
  | some (ds, ρ), m, s => loopS m s ds ρ
  | none, _, _ => none
theorem forS_ap (f : Cls) (m : Tgt) (s : SemS) (ρ : List D) : forS f m s ρ = forC (f ρ) m s := by
  unfold forS; cases f ρ <;> rfl
theorem forC_so (ds ρ : List D) (m : Tgt) (s : SemS) : forC (some (ds, ρ)) m s = loopS m s ds ρ := id rfl
def asgC : Option (D × List D) → Tgt → Option Out
  | some (d, ρ), m => (m d ρ).map .nx
  | none, _ => none
theorem asgS_ap (f : Sem0) (m : Tgt) (ρ : List D) : asgS f m ρ = asgC (f ρ) m := by
  unfold asgS
  cases f ρ with
  | none => rfl
  | some p => show (m p.1 p.2).bind _ = (m p.1 p.2).map _; cases m p.1 p.2 <;> rfl
theorem asgC_so (d : D) (ρ : List D) (m : Tgt) : asgC (some (d, ρ)) m = (m d ρ).map .nx := id rfl
/-! ### expressions -/
def seqC : Option (D × List D) → List Od → Option (List D × List D)
  | some (d, ρ), os => (seqF os ρ).map fun q => (d :: q.1, q.2)
  | none, _ => none
def seqC2 (d : D) : Option (List D × List D) → Option (List D × List D)
  | some (ds, ρ) => some (d :: ds, ρ)
  | none => none
theorem seqF_nil (ρ : List D) : seqF [] ρ = some ([], ρ) := id rfl
theorem seqF_cons (o : Od) (os : List Od) (ρ : List D) : seqF (o :: os) ρ = seqC (o.f ρ) os := by
  show (o.f ρ).bind _ = _
  cases o.f ρ with
  | none => rfl
  | some p => show (seqF os p.2).bind _ = (seqF os p.2).map _; cases seqF os p.2 <;> rfl
theorem seqC_so (d : D) (ρ : List D) (os : List Od) : seqC (some (d, ρ)) os = seqC2 d (seqF os ρ) := by
  show (seqF os ρ).map _ = _
  cases seqF os ρ <;> rfl
theorem seqC2_so (d : D) (ds ρ : List D) : seqC2 d (some (ds, ρ)) = some (d :: ds, ρ) := id rfl
theorem odK_f (k i : Nat) : (odK k i).f = rd i := id rfl
theorem odK_al (k i : Nat) : (odK k i).al = some i := id rfl
theorem odE_f (T : List Nat) (k : Nat) (f : Sem0) : (odE T k f).f = f := id rfl
theorem odE_al (T : List Nat) (k : Nat) (f : Sem0) : (odE T k f).al = none := id rfl
def opC (g : List D → Option D) : Option (List D × List D) → Option (D × List D)
  | some (ds, ρ) => (g ds).map fun d => (d, ρ)
  | none => none
def opC2 (ρ : List D) : Option D → Option (D × List D)
  | some d => some (d, ρ)
  | none => none
theorem opF_ap (g : List D → Option D) (os : List Od) (ρ : List D) : opF g os ρ = opC g (seqF os ρ) := by
  unfold opF
  cases seqF os ρ with
  | none => rfl
  | some p => show (g p.1).bind _ = (g p.1).map _; cases g p.1 <;> rfl
theorem opC_so (g : List D → Option D) (ds ρ : List D) : opC g (some (ds, ρ)) = opC2 ρ (g ds) := by
  show (g ds).map _ = _
  cases g ds <;> rfl
theorem opC2_so (ρ : List D) (d : D) : opC2 ρ (some d) = some (d, ρ) := id rfl
theorem cF_ap (d : D) (ρ : List D) : cF d ρ = some (d, ρ) := id rfl
def rdC : Option D → List D → Option (D × List D)
  | some .und, _ => none
  | some d, ρ => some (d, ρ)
  | none, _ => none
theorem rd_ap (i : Nat) (ρ : List D) : rd i ρ = rdC ρ[i]? ρ := by
  unfold rd
  cases ρ[i]? with
  | none => rfl
  | some d => cases d <;> rfl
theorem rdC_non (ρ : List D) : rdC (some .non) ρ = some (.non, ρ) := id rfl
theorem rdC_bl (b : Bool) (ρ : List D) : rdC (some (.bl b)) ρ = some (.bl b, ρ) := id rfl
theorem rdC_int (i : Int) (ρ : List D) : rdC (some (.int i)) ρ = some (.int i, ρ) := id rfl
theorem rdC_str (x : Str) (ρ : List D) : rdC (some (.str x)) ρ = some (.str x, ρ) := id rfl
theorem rdC_tup (xs : List D) (ρ : List D) : rdC (some (.tup xs)) ρ = some (.tup xs, ρ) := id rfl
theorem rdC_lst (xs : List D) (ρ : List D) : rdC (some (.lst xs)) ρ = some (.lst xs, ρ) := id rfl
theorem rdC_dct (t : Nat) (ks vs : List D) (ρ : List D) : rdC (some (.dct t ks vs)) ρ = some (.dct t ks vs, ρ) := id rfl
theorem rdC_ne {d : D} (h : d ≠ .und) (ρ : List D) : rdC (some d) ρ = some (d, ρ) := by
  cases d <;> first | rfl | exact absurd rfl h
def callC2 (os : List Od) (ρ : List D) : Option (D × List D) → Option (D × List D)
  | some (d, es) => some (d, wb os es ρ)
  | none => none
def callC (os : List Od) (fn : Sem0) : Option (List D × List D) → Option (D × List D)
  | some (ds, ρ) => callC2 os ρ (fn ds)
  | none => none
theorem callF_ap (os : List Od) (fn : Sem0) (ρ : List D) : callF os fn ρ = callC os fn (seqF os ρ) := by
  unfold callF
  cases seqF os ρ with
  | none => rfl
  | some p => show (fn p.1).bind _ = callC2 os p.2 (fn p.1); cases fn p.1 <;> rfl
theorem callC_so (os : List Od) (fn : Sem0) (ds ρ : List D) : callC os fn (some (ds, ρ)) = callC2 os ρ (fn ds) := id rfl
theorem callC2_so (os : List Od) (ρ es : List D) (d : D) : callC2 os ρ (some (d, es)) = some (d, wb os es ρ) := id rfl
theorem wb_nil (ds ρ : List D) : wb [] ds ρ = ρ := by unfold wb; rfl
theorem wb_e (T : List Nat) (k : Nat) (f : Sem0) (os : List Od) (d : D) (ds ρ : List D) : wb (odE T k f :: os) (d :: ds) ρ = wb os ds ρ := id rfl
theorem wb_k (k i : Nat) (os : List Od) (d : D) (ds ρ : List D) : wb (odK k i :: os) (d :: ds) ρ = wb os ds (ρ.set i d) := id rfl
def tstC : Option (D × List D) → Option (Bool × List D)
  | some (.bl b, ρ) => some (b, ρ)
  | _ => none
theorem tstF_ap (f : Sem0) (ρ : List D) : tstF f ρ = tstC (f ρ) := by
  unfold tstF
  cases f ρ with
  | none => rfl
  | some p => obtain ⟨d, r⟩ := p; cases d <;> rfl
theorem tstC_so (b : Bool) (ρ : List D) : tstC (some (.bl b, ρ)) = some (b, ρ) := id rfl
def notC : Option (Bool × List D) → Option (Bool × List D)
  | some (b, ρ) => some (!b, ρ)
  | none => none
theorem notF_ap (t : Tst) (ρ : List D) : notF t ρ = notC (t ρ) := by unfold notF; cases t ρ <;> rfl
theorem notC_so (b : Bool) (ρ : List D) : notC (some (b, ρ)) = some (!b, ρ) := id rfl
def andC : Option (Bool × List D) → Tst → Option (Bool × List D)
  | some (true, ρ), u => u ρ
  | some (false, ρ), _ => some (false, ρ)
  | none, _ => none
theorem andF_ap (t u : Tst) (ρ : List D) : andF t u ρ = andC (t ρ) u := by
  unfold andF
  cases t ρ with
  | none => rfl
  | some p => obtain ⟨b, r⟩ := p; cases b <;> rfl
theorem andC_t (ρ : List D) (u : Tst) : andC (some (true, ρ)) u = u ρ := id rfl
theorem andC_f (ρ : List D) (u : Tst) : andC (some (false, ρ)) u = some (false, ρ) := id rfl
/-- the second's value is known -/
theorem andC_b {b c : Bool} {ρ : List D} {u : Tst} (h : b = true → u ρ = some (c, ρ)) : andC (some (b, ρ)) u = some (b && c, ρ) := by
  cases b
  · rfl
  · rw [andC_t, h rfl]; rfl
def orC : Option (Bool × List D) → Tst → Option (Bool × List D)
  | some (true, ρ), _ => some (true, ρ)
  | some (false, ρ), u => u ρ
  | none, _ => none
theorem orF_ap (t u : Tst) (ρ : List D) : orF t u ρ = orC (t ρ) u := by
  unfold orF
  cases t ρ with
  | none => rfl
  | some p => obtain ⟨b, r⟩ := p; cases b <;> rfl
theorem orC_t (ρ : List D) (u : Tst) : orC (some (true, ρ)) u = some (true, ρ) := id rfl
theorem orC_f (ρ : List D) (u : Tst) : orC (some (false, ρ)) u = u ρ := id rfl
theorem orC_b {b c : Bool} {ρ : List D} {u : Tst} (h : b = false → u ρ = some (c, ρ)) : orC (some (b, ρ)) u = some (b || c, ρ) := by
  cases b
  · rw [orC_f, h rfl]; rfl
  · rfl
def ifFC : Option (Bool × List D) → Sem0 → Sem0 → Option (D × List D)
  | some (true, ρ), f, _ => f ρ
  | some (false, ρ), _, g => g ρ
  | none, _, _ => none
theorem ifF_ap (t : Tst) (f g : Sem0) (ρ : List D) : ifF t f g ρ = ifFC (t ρ) f g := by
  unfold ifF
  cases t ρ with
  | none => rfl
  | some p => obtain ⟨b, r⟩ := p; cases b <;> rfl
theorem ifFC_t (ρ : List D) (f g : Sem0) : ifFC (some (true, ρ)) f g = f ρ := id rfl
theorem ifFC_f (ρ : List D) (f g : Sem0) : ifFC (some (false, ρ)) f g = g ρ := id rfl
theorem ifFC_b (b : Bool) (ρ : List D) (f g : Sem0) : ifFC (some (b, ρ)) f g = if b = true then f ρ else g ρ := by cases b <;> rfl
def blC : Option (Bool × List D) → Option (D × List D)
  | some (b, ρ) => some (.bl b, ρ)
  | none => none
theorem blF_ap (t : Tst) (ρ : List D) : blF t ρ = blC (t ρ) := by unfold blF; cases t ρ <;> rfl
theorem blC_so (b : Bool) (ρ : List D) : blC (some (b, ρ)) = some (.bl b, ρ) := id rfl
def andVC : Option (D × List D) → Sem0 → Option (D × List D)
  | some (.bl true, ρ), g => g ρ
  | some (.bl false, ρ), _ => some (.bl false, ρ)
  | _, _ => none
theorem andV_ap (f g : Sem0) (ρ : List D) : andV f g ρ = andVC (f ρ) g := by
  unfold andV
  cases f ρ with
  | none => rfl
  | some p => obtain ⟨d, r⟩ := p; cases d <;> first | rfl | (rename_i b; cases b <;> rfl)
theorem andVC_t (ρ : List D) (g : Sem0) : andVC (some (.bl true, ρ)) g = g ρ := id rfl
theorem andVC_f (ρ : List D) (g : Sem0) : andVC (some (.bl false, ρ)) g = some (.bl false, ρ) := id rfl
theorem andVC_b {b c : Bool} {ρ : List D} {g : Sem0} (h : b = true → g ρ = some (.bl c, ρ)) : andVC (some (.bl b, ρ)) g = some (.bl (b && c), ρ) := by
  cases b
  · rfl
  · rw [andVC_t, h rfl]; rfl
def orVC : Option (D × List D) → Sem0 → Option (D × List D)
  | some (.bl true, ρ), _ => some (.bl true, ρ)
  | some (.bl false, ρ), g => g ρ
  | _, _ => none
theorem orV_ap (f g : Sem0) (ρ : List D) : orV f g ρ = orVC (f ρ) g := by
  unfold orV
  cases f ρ with
  | none => rfl
  | some p => obtain ⟨d, r⟩ := p; cases d <;> first | rfl | (rename_i b; cases b <;> rfl)
theorem orVC_t (ρ : List D) (g : Sem0) : orVC (some (.bl true, ρ)) g = some (.bl true, ρ) := id rfl
theorem orVC_f (ρ : List D) (g : Sem0) : orVC (some (.bl false, ρ)) g = g ρ := id rfl
theorem orVC_b {b c : Bool} {ρ : List D} {g : Sem0} (h : b = false → g ρ = some (.bl c, ρ)) : orVC (some (.bl b, ρ)) g = some (.bl (b || c), ρ) := by
  cases b
  · rw [orVC_f, h rfl]; rfl
  · rfl
def notVC : Option (D × List D) → Option (D × List D)
  | some (.bl b, ρ) => some (.bl (!b), ρ)
  | _ => none
theorem notV_ap (f : Sem0) (ρ : List D) : notV f ρ = notVC (f ρ) := by
  unfold notV
  cases f ρ with
  | none => rfl
  | some p => obtain ⟨d, r⟩ := p; cases d <;> rfl
theorem notVC_so (b : Bool) (ρ : List D) : notVC (some (.bl b, ρ)) = some (.bl (!b), ρ) := id rfl
def truC : Option (List D × List D) → Option (Bool × List D)
  | some ([d], ρ) => (truD d).map fun b => (b, ρ)
  | _ => none
theorem truO_ap (o : Od) (ρ : List D) : truO o ρ = truC (seqF [o] ρ) := by
  unfold truO
  cases seqF [o] ρ with
  | none => rfl
  | some p =>
    obtain ⟨ds, r⟩ := p
    match ds with
    | [] => rfl
    | [d] => show (truD d).bind _ = (truD d).map _; cases truD d <;> rfl
    | _ :: _ :: _ => rfl
theorem truC_bl (b : Bool) (ρ : List D) : truC (some ([.bl b], ρ)) = some (b, ρ) := id rfl
theorem truC_int (i : Int) (ρ : List D) : truC (some ([.int i], ρ)) = some (i != 0, ρ) := id rfl
theorem truC_lst (xs ρ : List D) : truC (some ([.lst xs], ρ)) = some (!xs.isEmpty, ρ) := id rfl
theorem truC_tup (xs ρ : List D) : truC (some ([.tup xs], ρ)) = some (!xs.isEmpty, ρ) := id rfl
theorem truC_non (ρ : List D) : truC (some ([.non], ρ)) = some (false, ρ) := id rfl
/-! ### functions -/
def fnC (Φ : List Nat) (ds : List D) : Option Out → Option (D × List D)
  | some (.rt d ρ) => some (d, rest Φ 0 ds ρ)
  | some (.nx ρ) => some (.non, rest Φ 0 ds ρ)
  | _ => none
theorem fnF_ap (Φ : List Nat) (n : Nat) (s : SemS) (ds : List D) : fnF Φ n s ds = fnC Φ ds (s (ds ++ List.replicate (n - ds.length) .und)) := by
  unfold fnF
  cases s (ds ++ List.replicate (n - ds.length) .und) with
  | none => rfl
  | some o => cases o <;> rfl
theorem fnC_rt (Φ : List Nat) (ds ρ : List D) (d : D) : fnC Φ ds (some (.rt d ρ)) = some (d, rest Φ 0 ds ρ) := id rfl
theorem fnC_nx (Φ : List Nat) (ds ρ : List D) : fnC Φ ds (some (.nx ρ)) = some (.non, rest Φ 0 ds ρ) := id rfl
/-- by reference nothing -/
theorem rest_nil : ∀ (j : Nat) (ds es : List D), rest [] j ds es = ds
  | _, [], _ => rfl
  | j, d :: ds, es => by show (if false = true then _ else d) :: rest [] (j + 1) ds es.tail = _; rw [rest_nil]; rfl
theorem fn_of {n : Nat} {s : SemS} {ds ρ0 r : List D} {d : D} (h0 : ds ++ List.replicate (n - ds.length) .und = ρ0) (h : s ρ0 = some (.rt d r)) : fnF [] n s ds = some (d, ds) := by
  rw [fnF_ap, h0, h, fnC_rt, rest_nil]
theorem fn_ofr {Φ : List Nat} {n : Nat} {s : SemS} {ds ρ0 r es : List D} {d : D} (h0 : ds ++ List.replicate (n - ds.length) .und = ρ0) (h : s ρ0 = some (.rt d r)) (h1 : rest Φ 0 ds r = es) : fnF Φ n s ds = some (d, es) := by
  rw [fnF_ap, h0, h, fnC_rt, h1]
/-! ### stores -/
def appC (i : Nat) (xs : List D) : Option (D × List D) → Option (D × List D)
  | some (d, ρ) => if xs.length < sizeLine then some (.non, ρ.set i (.lst (xs ++ [d]))) else none
  | none => none
def appC0 (i : Nat) (f : Sem0) (ρ : List D) : Option D → Option (D × List D)
  | some (.lst xs) => appC i xs (f ρ)
  | _ => none
theorem appF_ap (i : Nat) (f : Sem0) (ρ : List D) : appF i f ρ = appC0 i f ρ ρ[i]? := by
  unfold appF
  cases ρ[i]? with
  | none => rfl
  | some d => cases d <;> first | rfl | (show (f ρ).bind _ = appC i _ (f ρ); cases f ρ <;> rfl)
theorem appC0_so (i : Nat) (f : Sem0) (ρ xs : List D) : appC0 i f ρ (some (.lst xs)) = appC i xs (f ρ) := id rfl
theorem appC_so (i : Nat) (xs ρ : List D) (d : D) (h : xs.length < sizeLine) : appC i xs (some (d, ρ)) = some (.non, ρ.set i (.lst (xs ++ [d]))) := by
  show (if _ then _ else _) = _; rw [if_pos h]
def stC2 (i : Nat) (v : D) (xs : List D) : Option (D × List D) → Option Out
  | some (.int j, ρ) => (ixN xs.length j).map fun n => .nx (ρ.set i (.lst (xs.set n v)))
  | _ => none
def stC1 (i : Nat) (v : D) (g : Sem0) (ρ : List D) : Option D → Option Out
  | some (.lst xs) => stC2 i v xs (g ρ)
  | _ => none
def stC (i : Nat) (g : Sem0) : Option (D × List D) → Option Out
  | some (v, ρ) => stC1 i v g ρ ρ[i]?
  | none => none
theorem stS_ap (i : Nat) (f g : Sem0) (ρ : List D) : stS i f g ρ = stC i g (f ρ) := by
  unfold stS
  cases f ρ with
  | none => rfl
  | some p =>
    obtain ⟨v, r⟩ := p
    show (match r[i]? with | some (.lst xs) => _ | _ => none) = stC1 i v g r r[i]?
    cases r[i]? with
    | none => rfl
    | some d =>
      cases d with
      | lst xs =>
        show (g r).bind _ = stC2 i v xs (g r)
        cases g r with
        | none => rfl
        | some q =>
          obtain ⟨e, r2⟩ := q
          cases e with
          | int j => show (ixN xs.length j).bind _ = (ixN xs.length j).map _; cases ixN xs.length j <;> rfl
          | _ => rfl
      | _ => rfl
theorem stC_so (i : Nat) (g : Sem0) (v : D) (ρ : List D) : stC i g (some (v, ρ)) = stC1 i v g ρ ρ[i]? := id rfl
theorem stC1_so (i : Nat) (v : D) (g : Sem0) (ρ xs : List D) : stC1 i v g ρ (some (.lst xs)) = stC2 i v xs (g ρ) := id rfl
theorem stC2_so (i : Nat) (v : D) (xs ρ : List D) (j : Int) (h0 : 0 ≤ j) (h1 : j < xs.length) : stC2 i v xs (some (.int j, ρ)) = some (.nx (ρ.set i (.lst (xs.set j.toNat v)))) := by
  show (ixN xs.length j).map _ = _
  unfold ixN
  rw [if_pos h0, if_pos h1]; rfl
/-! ### loops -/
def turn (m : Tgt) (s : SemS) (x : D) (ρ : List D) : Option Out := (m x ρ).bind s
theorem turn_N (i : Nat) (s : SemS) (x : D) (ρ : List D) : turn (tgN i) s x ρ = s (ρ.set i x) := id rfl
theorem turn_T2 (i j : Nat) (s : SemS) (a b : D) (ρ : List D) : turn (tgT [tgN i, tgN j]) s (.tup [a, b]) ρ = s ((ρ.set i a).set j b) := id rfl
theorem turn_T3 (i j l : Nat) (s : SemS) (a b c : D) (ρ : List D) : turn (tgT [tgN i, tgN j, tgN l]) s (.tup [a, b, c]) ρ = s (((ρ.set i a).set j b).set l c) := id rfl
def loopC (m : Tgt) (s : SemS) (xs : List D) : Option Out → Option Out
  | some (.nx ρ) => loopS m s xs ρ
  | some (.ct ρ) => loopS m s xs ρ
  | some (.bk ρ) => some (.nx ρ)
  | some (.rt d ρ) => some (.rt d ρ)
  | none => none
theorem loopS_nil (m : Tgt) (s : SemS) (ρ : List D) : loopS m s [] ρ = some (.nx ρ) := id rfl
theorem loopS_cons (m : Tgt) (s : SemS) (x : D) (xs ρ : List D) : loopS m s (x :: xs) ρ = loopC m s xs (turn m s x ρ) := by
  show (m x ρ).bind _ = _
  unfold turn
  cases m x ρ with
  | none => rfl
  | some r => show (s r).bind _ = loopC m s xs (s r); cases s r with
    | none => rfl
    | some o => cases o <;> rfl
theorem loopC_nx (m : Tgt) (s : SemS) (xs ρ : List D) : loopC m s xs (some (.nx ρ)) = loopS m s xs ρ := id rfl
theorem loopC_ct (m : Tgt) (s : SemS) (xs ρ : List D) : loopC m s xs (some (.ct ρ)) = loopS m s xs ρ := id rfl
theorem loopC_bk (m : Tgt) (s : SemS) (xs ρ : List D) : loopC m s xs (some (.bk ρ)) = some (.nx ρ) := id rfl
theorem loopC_rt (m : Tgt) (s : SemS) (xs ρ : List D) (d : D) : loopC m s xs (some (.rt d ρ)) = some (.rt d ρ) := id rfl
/-- a turn that goes on -/
def isGo : Option Out → List D → Prop
  | some (.nx ρ), r => ρ = r
  | some (.ct ρ), r => ρ = r
  | _, _ => False
/-- a loop as a fold, with an invariant of the part taken -/
theorem loop_inv {α σ : Type} {e : α → D} {m : Tgt} {s : SemS} (st : σ → List D) (f : σ → α → σ) (I : List α → σ → Prop) (all : List α)
    (h : ∀ pre x post a, all = pre ++ x :: post → I pre a → turn m s (e x) (st a) = some (.nx (st (f a x))) ∧ I (pre ++ [x]) (f a x)) :
    ∀ (pre post : List α) (a : σ), all = pre ++ post → I pre a → loopS m s (post.map e) (st a) = some (.nx (st (post.foldl f a))) ∧ I all (post.foldl f a)
  | pre, [], a, hp, hi => ⟨rfl, by rw [hp, List.append_nil]; exact hi⟩
  | pre, x :: post, a, hp, hi => by
    obtain ⟨h1, h2⟩ := h pre x post a hp hi
    rw [List.map_cons, loopS_cons, h1, loopC_nx, List.foldl_cons]
    exact loop_inv st f I all h (pre ++ [x]) post (f a x) (by rw [hp]; simp) h2
theorem loop_fold {α σ : Type} {e : α → D} {m : Tgt} {s : SemS} (st : σ → List D) (f : σ → α → σ) (I : σ → Prop) {xs : List α}
    (h : ∀ x a, x ∈ xs → I a → turn m s (e x) (st a) = some (.nx (st (f a x))) ∧ I (f a x)) {a : σ} (hi : I a) :
    loopS m s (xs.map e) (st a) = some (.nx (st (xs.foldl f a))) ∧ I (xs.foldl f a) :=
  loop_inv st f (fun _ => I) xs (fun pre x post a hp hi => h x a (by rw [hp]; simp) hi) [] xs a rfl hi
theorem loop_fold0 {α σ : Type} {e : α → D} {m : Tgt} {s : SemS} (st : σ → List D) (f : σ → α → σ) {xs : List α}
    (h : ∀ x a, x ∈ xs → turn m s (e x) (st a) = some (.nx (st (f a x)))) (a : σ) :
    loopS m s (xs.map e) (st a) = some (.nx (st (xs.foldl f a))) :=
  (loop_fold (I := fun _ => True) st f (fun x a hx _ => ⟨h x a hx, trivial⟩) trivial).1
/-- a loop whose state is only known by what holds of it -/
theorem loop_rel {α σ : Type} {e : α → D} {m : Tgt} {s : SemS} (st : σ → List D) (I : List α → σ → Prop) (all : List α)
    (h : ∀ pre x post a, all = pre ++ x :: post → I pre a → ∃ b, turn m s (e x) (st a) = some (.nx (st b)) ∧ I (pre ++ [x]) b) :
    ∀ (pre post : List α) (a : σ), all = pre ++ post → I pre a → ∃ b, loopS m s (post.map e) (st a) = some (.nx (st b)) ∧ I all b
  | pre, [], a, hp, hi => ⟨a, rfl, by rw [hp, List.append_nil]; exact hi⟩
  | pre, x :: post, a, hp, hi => by
    obtain ⟨b, h1, h2⟩ := h pre x post a hp hi
    rw [List.map_cons, loopS_cons, h1, loopC_nx]
    exact loop_rel st I all h (pre ++ [x]) post b (by rw [hp]; simp) h2
/-- a while -/
def whileC (c : Tst) (s : SemS) (n : Nat) : Option Out → Option Out
  | some (.nx ρ) => whileS c s n ρ
  | some (.ct ρ) => whileS c s n ρ
  | some (.bk ρ) => some (.nx ρ)
  | some (.rt d ρ) => some (.rt d ρ)
  | none => none
theorem whileS_t {c : Tst} {s : SemS} {n : Nat} {ρ r : List D} (h : c ρ = some (true, r)) : whileS c s (n + 1) ρ = whileC c s n (s r) := by
  show (c ρ).bind _ = _
  rw [h]
  show (s r).bind _ = _
  cases s r with
  | none => rfl
  | some o => cases o <;> rfl
theorem whileS_f {c : Tst} {s : SemS} {n : Nat} {ρ r : List D} (h : c ρ = some (false, r)) : whileS c s (n + 1) ρ = some (.nx r) := by
  show (c ρ).bind _ = _
  rw [h]; rfl
theorem while_rel {σ : Type} {c : Tst} {s : SemS} (st : σ → List D) (t : σ → Bool) (I : σ → Prop) (μ : σ → Nat)
    (ht : ∀ a, I a → c (st a) = some (t a, st a)) (hs : ∀ a, I a → t a = true → ∃ b, s (st a) = some (.nx (st b)) ∧ I b ∧ μ b < μ a) :
    ∀ (n : Nat) (a : σ), I a → μ a < n → ∃ b, whileS c s n (st a) = some (.nx (st b)) ∧ I b ∧ t b = false
  | 0, a, _, h => absurd h (Nat.not_lt_zero _)
  | n + 1, a, hi, hn => by
    cases ha : t a with
    | false => exact ⟨a, whileS_f (by rw [ht a hi, ha]), hi, ha⟩
    | true =>
      obtain ⟨b, h1, h2, h3⟩ := hs a hi ha
      rw [whileS_t (by rw [ht a hi, ha]), h1]
      exact while_rel st t I μ ht hs n b h2 (by omega)
/-! ### comprehensions -/
theorem clL_ev {α : Type} {e : α → D} {vs : List Nat} {m : Tgt} {t : Tst} {b : Cls} {ρ0 : List D} (ρ1 : α → List D) (p : α → Bool) (g : α → List D) : ∀ {xs : List α},
    (∀ x ∈ xs, m (e x) ρ0 = some (ρ1 x)) → (∀ x ∈ xs, t (ρ1 x) = some (p x, ρ1 x)) → (∀ x ∈ xs, p x = true → b (ρ1 x) = some (g x, ρ1 x)) → (∀ x ∈ xs, wipeD vs (ρ1 x) = ρ0) →
    clL vs m t b (xs.map e) ρ0 = some ((xs.filter p).flatMap g, ρ0)
  | [], _, _, _, _ => rfl
  | x :: xs, h1, h2, h3, h4 => by
    have ih := clL_ev (e := e) (m := m) (t := t) (b := b) ρ1 p g (fun y hy => h1 y (List.mem_cons_of_mem _ hy)) (fun y hy => h2 y (List.mem_cons_of_mem _ hy)) (fun y hy => h3 y (List.mem_cons_of_mem _ hy)) (fun y hy => h4 y (List.mem_cons_of_mem _ hy))
    show (m (e x) ρ0).bind _ = _
    rw [h1 x List.mem_cons_self]
    show (t (ρ1 x)).bind _ = _
    rw [h2 x List.mem_cons_self]
    show (if p x = true then _ else _) = _
    cases hp : p x with
    | false =>
      rw [if_neg (by simp), h4 x List.mem_cons_self, ih, List.filter_cons_of_neg (by rw [hp]; simp)]
    | true =>
      rw [if_pos rfl, h3 x List.mem_cons_self hp]
      show (clL vs m t b (xs.map e) (wipeD vs (ρ1 x))).bind _ = _
      rw [h4 x List.mem_cons_self, ih, List.filter_cons_of_pos hp]
      rfl
theorem clF_ev {α : Type} {xs : List α} {e : α → D} {src : Cls} {vs : List Nat} {m : Tgt} {t : Tst} {b : Cls} {ρ : List D} (ρ1 : α → List D) (p : α → Bool) (g : α → List D)
    (hs : src ρ = some (xs.map e, ρ)) (hm : ∀ x ∈ xs, m (e x) (wipeD vs ρ) = some (ρ1 x)) (ht : ∀ x ∈ xs, t (ρ1 x) = some (p x, ρ1 x)) (hb : ∀ x ∈ xs, p x = true → b (ρ1 x) = some (g x, ρ1 x))
    (hw : ∀ x ∈ xs, wipeD vs (ρ1 x) = wipeD vs ρ) (hu : unw vs ρ (wipeD vs ρ) = ρ) :
    clF src vs m t b ρ = some ((xs.filter p).flatMap g, ρ) := by
  unfold clF
  rw [hs]
  show (clL vs m t b (xs.map e) (wipeD vs ρ)).bind _ = _
  rw [clL_ev ρ1 p g hm ht hb hw]
  show some (_, unw vs ρ (wipeD vs ρ)) = _
  rw [hu]
theorem oneF_ev {el : Sem0} {ρ r : List D} {d : D} (h : el ρ = some (d, r)) : oneF el ρ = some ([d], r) := by
  unfold oneF; rw [h]; rfl
theorem lcF_ev {c : Cls} {ρ r ds : List D} (h : c ρ = some (ds, r)) (hl : ds.length ≤ sizeLine) : lcF c ρ = some (.lst ds, r) := by
  unfold lcF; rw [h]; show (if _ then _ else _) = _; rw [if_pos hl]
theorem flatMap_one {α β : Type} (g : α → β) : ∀ xs : List α, xs.flatMap (fun x => [g x]) = xs.map g
  | [] => rfl
  | x :: xs => by rw [List.flatMap_cons, flatMap_one g xs]; rfl
/-- [el for x in xs if t] -/
theorem lc_if {α : Type} {xs : List α} {e : α → D} {src : Cls} {vs : List Nat} {m : Tgt} {t : Tst} {el : Sem0} {ρ : List D} (ρ1 : α → List D) (p : α → Bool) (g : α → D)
    (hs : src ρ = some (xs.map e, ρ)) (hm : ∀ x ∈ xs, m (e x) (wipeD vs ρ) = some (ρ1 x)) (ht : ∀ x ∈ xs, t (ρ1 x) = some (p x, ρ1 x)) (hb : ∀ x ∈ xs, p x = true → el (ρ1 x) = some (g x, ρ1 x))
    (hw : ∀ x ∈ xs, wipeD vs (ρ1 x) = wipeD vs ρ) (hu : unw vs ρ (wipeD vs ρ) = ρ) (hl : xs.length ≤ sizeLine) :
    lcF (clF src vs m t (oneF el)) ρ = some (.lst ((xs.filter p).map g), ρ) := by
  refine lcF_ev ?_ ?_
  · rw [clF_ev ρ1 p (fun x => [g x]) hs hm ht (fun x hx hp => oneF_ev (hb x hx hp)) hw hu, flatMap_one]
  · rw [List.length_map]; exact Nat.le_trans (List.length_filter_le _ _) hl
theorem yesF_ap (ρ : List D) : yesF ρ = some (true, ρ) := id rfl
theorem filter_yes {α : Type} : ∀ xs : List α, xs.filter (fun _ => true) = xs
  | [] => rfl
  | x :: xs => by rw [List.filter_cons_of_pos rfl, filter_yes xs]
/-- [el for x in xs] -/
theorem lc_map {α : Type} {xs : List α} {e : α → D} {src : Cls} {vs : List Nat} {m : Tgt} {el : Sem0} {ρ : List D} (ρ1 : α → List D) (g : α → D)
    (hs : src ρ = some (xs.map e, ρ)) (hm : ∀ x ∈ xs, m (e x) (wipeD vs ρ) = some (ρ1 x)) (hb : ∀ x ∈ xs, el (ρ1 x) = some (g x, ρ1 x))
    (hw : ∀ x ∈ xs, wipeD vs (ρ1 x) = wipeD vs ρ) (hu : unw vs ρ (wipeD vs ρ) = ρ) (hl : xs.length ≤ sizeLine) :
    lcF (clF src vs m yesF (oneF el)) ρ = some (.lst (xs.map g), ρ) := by
  rw [lc_if ρ1 (fun _ => true) g hs hm (fun _ _ => rfl) (fun x hx _ => hb x hx) hw hu hl, filter_yes]
/-- a loop as a fold that may end without a value -/
theorem loop_opt {α σ : Type} {e : α → D} {m : Tgt} {s : SemS} (st : σ → List D) (step : σ → α → Option σ) (h : ∀ a x b, step a x = some b → turn m s (e x) (st a) = some (.nx (st b))) :
    ∀ (xs : List α) (a b : σ), xs.foldlM step a = some b → loopS m s (xs.map e) (st a) = some (.nx (st b))
  | [], a, b, hf => by
    rw [List.foldlM_nil] at hf
    cases hf; rfl
  | x :: xs, a, b, hf => by
    rw [List.foldlM_cons] at hf
    cases hx : step a x with
    | none => rw [hx] at hf; cases hf
    | some c =>
      rw [hx] at hf
      rw [List.map_cons, loopS_cons, h a x c hx, loopC_nx]
      exact loop_opt st step h xs c b hf
/-! two, three names at once -/
def parC2 (i j : Nat) (d : D) : Option (D × List D) → Option Out
  | some (e, ρ) => some (.nx ((ρ.set i d).set j e))
  | none => none
def parC (i j : Nat) (g : Sem0) : Option (D × List D) → Option Out
  | some (d, ρ) => parC2 i j d (g ρ)
  | none => none
theorem par2_ap (i j : Nat) (f g : Sem0) (ρ : List D) : par2 i j f g ρ = parC i j g (f ρ) := by
  unfold par2
  cases f ρ with
  | none => rfl
  | some p => show (g p.2).bind _ = parC2 i j p.1 (g p.2); cases g p.2 <;> rfl
theorem parC_so (i j : Nat) (g : Sem0) (d : D) (ρ : List D) : parC i j g (some (d, ρ)) = parC2 i j d (g ρ) := id rfl
theorem parC2_so (i j : Nat) (d e : D) (ρ : List D) : parC2 i j d (some (e, ρ)) = some (.nx ((ρ.set i d).set j e)) := id rfl
def par3C3 (i j l : Nat) (d e : D) : Option (D × List D) → Option Out
  | some (a, ρ) => some (.nx (((ρ.set i d).set j e).set l a))
  | none => none
def par3C2 (i j l : Nat) (h : Sem0) (d : D) : Option (D × List D) → Option Out
  | some (e, ρ) => par3C3 i j l d e (h ρ)
  | none => none
def par3C (i j l : Nat) (g h : Sem0) : Option (D × List D) → Option Out
  | some (d, ρ) => par3C2 i j l h d (g ρ)
  | none => none
theorem par3_ap (i j l : Nat) (f g h : Sem0) (ρ : List D) : par3 i j l f g h ρ = par3C i j l g h (f ρ) := by
  unfold par3
  cases f ρ with
  | none => rfl
  | some p =>
    show (g p.2).bind _ = par3C2 i j l h p.1 (g p.2)
    cases g p.2 with
    | none => rfl
    | some q => show (h q.2).bind _ = par3C3 i j l p.1 q.1 (h q.2); cases h q.2 <;> rfl
theorem par3C_so (i j l : Nat) (g h : Sem0) (d : D) (ρ : List D) : par3C i j l g h (some (d, ρ)) = par3C2 i j l h d (g ρ) := id rfl
theorem par3C2_so (i j l : Nat) (h : Sem0) (d e : D) (ρ : List D) : par3C2 i j l h d (some (e, ρ)) = par3C3 i j l d e (h ρ) := id rfl
theorem par3C3_so (i j l : Nat) (d e a : D) (ρ : List D) : par3C3 i j l d e (some (a, ρ)) = some (.nx (((ρ.set i d).set j e).set l a)) := id rfl
theorem tgN_ap (i : Nat) (d : D) (ρ : List D) : tgN i d ρ = some (ρ.set i d) := id rfl
theorem tgT2_ap (i j : Nat) (a b : D) (ρ : List D) : tgT [tgN i, tgN j] (.tup [a, b]) ρ = some ((ρ.set i a).set j b) := id rfl
theorem tgT3_ap (i j l : Nat) (a b c : D) (ρ : List D) : tgT [tgN i, tgN j, tgN l] (.tup [a, b, c]) ρ = some (((ρ.set i a).set j b).set l c) := id rfl
end VS

set_option Elab.async false
set_option linter.all false
set_option maxRecDepth 100000
/-! Functions that several laws share, as data semantics (written by gen2.py). -/
namespace VS
open PySem PySem.Spec PyProof.Rows L2
abbrev N_ulaw_refill : List Str := ["script", "k", "cell"]
def S_ulaw_refill : SemS := seqS (setS 2 (cF (.int 0))) (seqS (ifS (truO (odK 0 0)) (seqS (setS 2 (opF ixD [odK 0 0, odE [] 0 (opF modD [odK 0 1, odE [] 0 (opF lenD [odK 0 0])])])) (nilS)) (nilS)) (seqS (ifS (tstF (opF ltD [odK 0 2, odE [] 0 (cF (.int 0))])) (seqS (setS 2 (opF subD [odE [] 0 (cF (.int 1)), odE [] 0 (opF mulD [odE [] 0 (cF (.int 2)), odK 0 2])])) (nilS)) (nilS)) (seqS (ifS (andF (tstF (opF geD [odK 0 2, odE [] 0 (opF powD [odE [] 0 (cF (.int 10)), odE [] 0 (cF (.int 18))])])) (tstF (opF ltD [odK 0 1, odE [] 0 (opF lenD [odK 0 0])]))) (seqS (retS (rd 2)) (nilS)) (nilS)) (seqS (retS (opF modD [odE [] 0 (opF intD [odE [] 1 (opF addD [odE [] 0 (opF mulD [odE [] 0 (opF intD [odE [] 1 (opF addD [odE [] 1 (opF addD [odE [] 0 (opF mulD [odK 0 2, odE [] 0 (cF (.int 48271))]), odE [] 0 (opF mulD [odK 0 1, odE [] 0 (cF (.int 69621))])]), odE [] 0 (cF (.int 12345))])]), odE [] 0 (cF (.int 40692))]), odE [] 0 (cF (.int 7))])]), odE [] 0 (cF (.int 2147483399))])) (nilS)))))
def F_ulaw_refill : Sem0 := fnF [] N_ulaw_refill.length S_ulaw_refill
abbrev N_ulaw_draw : List Str := ["state", "script", "size", "digit"]
def S_ulaw_draw : SemS := seqS (ifS (tstF (opF eqD [odE [] 0 (opF ixD [odK 1 0, odE [] 0 (cF (.int 1))]), odE [] 0 (cF (.int 0))])) (seqS (stS 0 (callF [odE [] 0 (rd 1), odE [] 0 (opF ixD [odK 1 0, odE [] 0 (cF (.int 0))])] F_ulaw_refill) (cF (.int 1))) (seqS (stS 0 (opF addD [odE [] 0 (opF ixD [odK 1 0, odE [] 0 (cF (.int 0))]), odE [] 0 (cF (.int 1))]) (cF (.int 0))) (nilS))) (nilS)) (seqS (setS 3 (opF modD [odE [] 0 (opF intD [odE [] 0 (opF ixD [odK 1 0, odE [] 0 (cF (.int 1))])]), odK 0 2])) (seqS (stS 0 (opF fdivD [odE [] 0 (opF ixD [odK 1 0, odE [] 0 (cF (.int 1))]), odK 0 2]) (cF (.int 1))) (seqS (retS (rd 3)) (nilS))))
def F_ulaw_draw : Sem0 := fnF [0] N_ulaw_draw.length S_ulaw_draw
abbrev N_ulaw_exact : List Str := ["first", "second", "alike", "k"]
def ulaw_exact_c1 (self : Sem0) : Sem0 := lcF (clF (rng1 [odE [] 0 (opF lenD [odK 0 0])]) [3] (tgN 3) (yesF) (oneF (callF [odE [] 0 (opF ixD [odK 0 0, odK 0 3]), odE [] 0 (opF ixD [odK 0 1, odK 0 3])] self)))
def S_ulaw_exact (self : Sem0) : SemS := seqS (ifS (truO (odE [] 0 (opF (isi2D "list" "tuple") [odK 0 0]))) (seqS (ifS (orF (tstF (opF neD [odE [] 0 (opF (isiD "list") [odK 0 0]), odE [] 0 (opF (isiD "list") [odK 0 1])])) (tstF (opF neD [odE [] 0 (opF (isiD "tuple") [odK 0 0]), odE [] 0 (opF (isiD "tuple") [odK 0 1])]))) (seqS (retS (cF (.bl false))) (nilS)) (nilS)) (seqS (retS (andV (opF eqD [odE [] 0 (opF lenD [odK 0 0]), odE [] 0 (opF lenD [odK 0 1])]) (opF allD [odE [] 1 ((ulaw_exact_c1 self))]))) (nilS))) (nilS)) (seqS (ifS (orF (tstF (opF isND [odK 0 0, odE [] 0 (cF .non)])) (tstF (opF isND [odK 0 1, odE [] 0 (cF .non)]))) (seqS (retS (andV (opF isND [odK 0 0, odE [] 0 (cF .non)]) (opF isND [odK 0 1, odE [] 0 (cF .non)]))) (nilS)) (nilS)) (seqS (setS 2 (andV (opF eqD [odE [] 0 (opF (isiD "str") [odK 0 0]), odE [] 0 (opF (isiD "str") [odK 0 1])]) (opF eqD [odE [] 0 (opF (isiD "bool") [odK 0 0]), odE [] 0 (opF (isiD "bool") [odK 0 1])]))) (seqS (retS (andV (rd 2) (andV (opF eqD [odE [] 0 (opF (isiD "int") [odK 0 0]), odE [] 0 (opF (isiD "int") [odK 0 1])]) (opF eqD [odK 0 0, odK 0 1])))) (nilS))))
def F_ulaw_exact : Nat → Sem0
  | 0 => fun _ => none
  | n + 1 => fnF [] N_ulaw_exact.length (S_ulaw_exact (F_ulaw_exact n))
abbrev N_ulaw_partition : List Str := ["state", "script", "most", "left", "part", "out"]
def ulaw_partition_b1 : SemS := seqS (setS 4 (opF addD [odE [] 0 (cF (.int 1)), odE [0] 0 (callF [odK 1 0, odE [] 0 (rd 1), odE [] 0 (opF min2D [odK 0 3, odK 0 4])] F_ulaw_draw)])) (seqS (dropS (appF 5 (rd 4))) (seqS (setS 3 (opF subD [odK 0 3, odK 0 4])) (nilS)))
def ulaw_partition_t1 : Tst := tstF (opF gtD [odK 0 3, odE [] 0 (cF (.int 0))])
def S_ulaw_partition : SemS := seqS (par3 3 4 5 (callF [odK 1 0, odE [] 0 (rd 1), odE [] 0 (opF addD [odK 0 2, odE [] 0 (cF (.int 1))])] F_ulaw_draw) (rd 2) (opF lstD [])) (seqS (whileS (ulaw_partition_t1) (ulaw_partition_b1) 100000) (killS 3 (killS 4 (seqS (retS (opF tupleD [odK 1 5])) (nilS)))))
def F_ulaw_partition : Sem0 := fnF [0] N_ulaw_partition.length S_ulaw_partition
abbrev N_ulaw_turned : List Str := ["row", "at", "part"]
def ulaw_turned_c1 : Sem0 := lcF (clF (seqSrc (rd 0)) [2] (tgN 2) (tstF (opF gtD [odK 0 2, odK 0 1])) (oneF (rd 2)))
def ulaw_turned_c2 : Sem0 := lcF (clF (rng1 [odE [] 0 (opF maxD [odE [] 1 (opF addD [odE [] 1 (opF lstD [odE [] 0 (cF (.int 0))]), odE [] 1 (opF listD [odK 0 0])])])]) [1] (tgN 1) (yesF) (oneF (opF lenD [odE [] 1 (ulaw_turned_c1)])))
def S_ulaw_turned : SemS := seqS (retS (opF tupleD [odE [] 1 (ulaw_turned_c2)])) (nilS)
def F_ulaw_turned : Sem0 := fnF [] N_ulaw_turned.length S_ulaw_turned
abbrev N_ulaw_hooks : List Str := ["row", "columns", "i", "j"]
def ulaw_hooks_c1 : Sem0 := lcF (clF (rng1 [odE [] 0 (opF ixD [odK 0 0, odK 0 2])]) [3] (tgN 3) (yesF) (oneF (opF subD [odE [] 0 (opF subD [odE [] 1 (opF addD [odE [] 0 (opF subD [odE [] 0 (opF ixD [odK 0 0, odK 0 2]), odK 0 3]), odE [] 0 (opF ixD [odK 0 1, odK 0 3])]), odK 0 2]), odE [] 0 (cF (.int 1))])))
def ulaw_hooks_c2 : Sem0 := lcF (clF (rng1 [odE [] 0 (opF lenD [odK 0 0])]) [2] (tgN 2) (yesF) (oneF (ulaw_hooks_c1)))
def S_ulaw_hooks : SemS := seqS (setS 1 (callF [odE [] 0 (rd 0)] F_ulaw_turned)) (seqS (retS (ulaw_hooks_c2)) (nilS))
def F_ulaw_hooks : Sem0 := fnF [] N_ulaw_hooks.length S_ulaw_hooks
abbrev N_ulaw_shuffled : List Str := ["state", "script", "row", "left", "out"]
def ulaw_shuffled_b1 : SemS := seqS (dropS (appF 4 (popAtF 3 (callF [odK 1 0, odE [] 0 (rd 1), odE [] 0 (opF lenD [odK 1 3])] F_ulaw_draw)))) (nilS)
def ulaw_shuffled_t1 : Tst := truO (odK 1 3)
def S_ulaw_shuffled : SemS := seqS (setS 3 (opF listD [odK 0 2])) (seqS (setS 4 (opF lstD [])) (seqS (whileS (ulaw_shuffled_t1) (ulaw_shuffled_b1) 100000) (killS 3 (seqS (retS (rd 4)) (nilS)))))
def F_ulaw_shuffled : Sem0 := fnF [0] N_ulaw_shuffled.length S_ulaw_shuffled
abbrev N_ulaw_factorial : List Str := ["n", "out", "k"]
def ulaw_factorial_b1 : SemS := seqS (setS 1 (opF mulD [odK 0 1, odK 0 2])) (killS 2 (nilS))
def S_ulaw_factorial : SemS := seqS (setS 1 (cF (.int 1))) (seqS (forS (rng2 [odE [] 0 (cF (.int 2)), odE [] 1 (opF addD [odK 0 0, odE [] 0 (cF (.int 1))])]) (tgN 2) (ulaw_factorial_b1)) (seqS (retS (rd 1)) (nilS)))
def F_ulaw_factorial : Sem0 := fnF [] N_ulaw_factorial.length S_ulaw_factorial
end VS

set_option Elab.async false
set_option linter.all false
set_option maxRecDepth 100000
/-! Functions that several laws share, as data semantics (written by gen2.py). -/
namespace VS
open PySem PySem.Spec PyProof.Rows L2
abbrev N_ulaw_flat : List Str := ["rows", "out", "row"]
def ulaw_flat_b1 : SemS := seqS (setS 1 (opF addD [odK 0 1, odE [] 1 (opF listD [odK 0 2])])) (killS 2 (nilS))
def S_ulaw_flat : SemS := seqS (setS 1 (opF lstD [])) (seqS (forS (seqSrc (rd 0)) (tgN 2) (ulaw_flat_b1)) (seqS (retS (rd 1)) (nilS)))
def F_ulaw_flat : Sem0 := fnF [] N_ulaw_flat.length S_ulaw_flat
abbrev N_ulaw_heaps : List Str := ["a", "b", "c", "lines", "k", "out", "more", "line", "rows", "entry", "j"]
def ulaw_heaps_c1 : Sem0 := lcF (clF (rng1 [odE [] 1 (opF addD [odK 0 2, odE [] 0 (cF (.int 1))])]) [9] (tgN 9) (orF (tstF (opF eqD [odK 0 7, odE [] 0 (opF tupD [])])) (tstF (opF leD [odK 0 9, odE [] 0 (opF ixD [odK 0 7, odE [] 0 (opF subD [odE [] 0 (opF lenD [odK 0 7]), odE [] 0 (cF (.int 1))])])]))) (oneF (opF addD [odK 0 7, odE [] 0 (opF tupD [odE [] 0 (rd 9)])])))
def ulaw_heaps_b1 : SemS := seqS (setS 6 (opF addD [odK 0 6, odE [] 1 (ulaw_heaps_c1)])) (killS 7 (nilS))
def ulaw_heaps_b2 : SemS := seqS (setS 6 (opF lstD [])) (killS 4 (seqS (forS (seqSrc (rd 3)) (tgN 7) (ulaw_heaps_b1)) (seqS (setS 3 (rd 6)) (killS 6 (nilS)))))
def ulaw_heaps_c2 : Sem0 := lcF (clF (rng1 [odK 0 1]) [10] (tgN 10) (yesF) (oneF (opF leD [odE [] 0 (opF ixD [odK 0 7, odK 0 10]), odE [] 0 (opF ixD [odE [] 0 (opF ixD [odK 0 8, odE [] 0 (opF subD [odE [] 0 (opF lenD [odK 0 8]), odE [] 0 (cF (.int 1))])]), odK 0 10])])))
def ulaw_heaps_c3 : Sem0 := lcF (clF (seqSrc (rd 3)) [7] (tgN 7) (orF (tstF (opF eqD [odK 0 8, odE [] 0 (opF tupD [])])) (truO (odE [] 0 (opF allD [odE [] 1 (ulaw_heaps_c2)])))) (oneF (opF addD [odK 0 8, odE [] 0 (opF tupD [odE [] 0 (rd 7)])])))
def ulaw_heaps_b3 : SemS := seqS (setS 6 (opF addD [odK 0 6, odE [] 1 (ulaw_heaps_c3)])) (killS 8 (nilS))
def ulaw_heaps_b4 : SemS := seqS (setS 6 (opF lstD [])) (killS 4 (seqS (forS (seqSrc (rd 5)) (tgN 8) (ulaw_heaps_b3)) (seqS (setS 5 (rd 6)) (killS 6 (nilS)))))
def S_ulaw_heaps : SemS := seqS (setS 3 (opF lstD [odE [] 0 (opF tupD [])])) (seqS (forS (rng1 [odK 0 1]) (tgN 4) (ulaw_heaps_b2)) (seqS (setS 5 (opF lstD [odE [] 0 (opF tupD [])])) (seqS (forS (rng1 [odK 0 0]) (tgN 4) (ulaw_heaps_b4)) (killS 3 (seqS (retS (opF (sortedD false) [odK 0 5])) (nilS))))))
def F_ulaw_heaps : Sem0 := fnF [] N_ulaw_heaps.length S_ulaw_heaps
abbrev N_ulaw_box : List Str := ["state", "script"]
def S_ulaw_box : SemS := seqS (retS (opF ixD [odE [] 1 (opF lstD [odE [] 0 (opF tupD [odE [] 0 (cF (.int 1)), odE [] 0 (cF (.int 1)), odE [] 0 (cF (.int 3))]), odE [] 0 (opF tupD [odE [] 0 (cF (.int 1)), odE [] 0 (cF (.int 3)), odE [] 0 (cF (.int 2))]), odE [] 0 (opF tupD [odE [] 0 (cF (.int 2)), odE [] 0 (cF (.int 1)), odE [] 0 (cF (.int 4))]), odE [] 0 (opF tupD [odE [] 0 (cF (.int 2)), odE [] 0 (cF (.int 2)), odE [] 0 (cF (.int 2))]), odE [] 0 (opF tupD [odE [] 0 (cF (.int 2)), odE [] 0 (cF (.int 2)), odE [] 0 (cF (.int 3))]), odE [] 0 (opF tupD [odE [] 0 (cF (.int 3)), odE [] 0 (cF (.int 2)), odE [] 0 (cF (.int 2))]), odE [] 0 (opF tupD [odE [] 0 (cF (.int 2)), odE [] 0 (cF (.int 3)), odE [] 0 (cF (.int 2))]), odE [] 0 (opF tupD [odE [] 0 (cF (.int 3)), odE [] 0 (cF (.int 3)), odE [] 0 (cF (.int 1))]), odE [] 0 (opF tupD [odE [] 0 (cF (.int 2)), odE [] 0 (cF (.int 2)), odE [] 0 (cF (.int 4))]), odE [] 0 (opF tupD [odE [] 0 (cF (.int 3)), odE [] 0 (cF (.int 1)), odE [] 0 (cF (.int 3))]), odE [] 0 (opF tupD [odE [] 0 (cF (.int 1)), odE [] 0 (cF (.int 4)), odE [] 0 (cF (.int 3))]), odE [] 0 (opF tupD [odE [] 0 (cF (.int 3)), odE [] 0 (cF (.int 3)), odE [] 0 (cF (.int 2))])]), odE [0] 0 (callF [odK 1 0, odE [] 0 (rd 1), odE [] 0 (cF (.int 12))] F_ulaw_draw)])) (nilS)
def F_ulaw_box : Sem0 := fnF [0] N_ulaw_box.length S_ulaw_box
abbrev N_ulaw_heap : List Str := ["state", "script", "a", "b", "c", "rows", "i", "row", "j", "most"]
def ulaw_heap_b1 : SemS := seqS (setS 9 (ifF (tstF (opF eqD [odK 0 6, odE [] 0 (cF (.int 0))])) (rd 4) (opF ixD [odE [] 0 (opF ixD [odK 1 5, odE [] 0 (opF subD [odK 0 6, odE [] 0 (cF (.int 1))])]), odK 0 8]))) (seqS (setS 9 (ifF (tstF (opF eqD [odK 0 8, odE [] 0 (cF (.int 0))])) (rd 9) (opF min2D [odK 0 9, odE [] 0 (opF ixD [odK 1 7, odE [] 0 (opF subD [odK 0 8, odE [] 0 (cF (.int 1))])])]))) (killS 8 (seqS (dropS (appF 7 (opF subD [odK 0 9, odE [0, 0] 0 (opF min2D [odK 0 9, odE [0, 0] 0 (opF mulD [odE [0] 0 (callF [odK 1 0, odE [] 0 (rd 1), odE [] 0 (opF addD [odK 0 9, odE [] 0 (cF (.int 1))])] F_ulaw_draw), odE [0] 0 (callF [odK 1 0, odE [] 0 (rd 1), odE [] 0 (cF (.int 2))] F_ulaw_draw)])])]))) (killS 9 (nilS)))))
def ulaw_heap_b2 : SemS := seqS (setS 7 (opF lstD [])) (seqS (forS (rng1 [odK 0 3]) (tgN 8) (ulaw_heap_b1)) (killS 6 (seqS (dropS (appF 5 (opF tupleD [odK 1 7]))) (killS 7 (nilS)))))
def S_ulaw_heap : SemS := seqS (setS 5 (opF lstD [])) (seqS (forS (rng1 [odK 0 2]) (tgN 6) (ulaw_heap_b2)) (seqS (retS (opF tupleD [odK 1 5])) (nilS)))
def F_ulaw_heap : Sem0 := fnF [0] N_ulaw_heap.length S_ulaw_heap
abbrev N_cubes : List Str := ["rows", "told", "x", "row", "y", "height", "z"]
def cubes_c1 : Sem0 := lcF (clF (rng1 [odK 0 5]) [6] (tgN 6) (yesF) (oneF (opF tupD [odE [] 0 (rd 2), odE [] 0 (rd 4), odE [] 0 (rd 6)])))
def cubes_b1 : SemS := seqS (setS 1 (opF addD [odK 0 1, odE [] 1 (cubes_c1)])) (killS 5 (killS 4 (nilS)))
def cubes_b2 : SemS := seqS (forS (enumSrc (rd 3)) (tgT [tgN 4, tgN 5]) (cubes_b1)) (killS 3 (killS 2 (nilS)))
def S_cubes : SemS := seqS (setS 1 (opF lstD [])) (seqS (forS (enumSrc (rd 0)) (tgT [tgN 2, tgN 3]) (cubes_b2)) (seqS (retS (opF (sortedD false) [odK 0 1])) (nilS)))
def F_cubes : Sem0 := fnF [] N_cubes.length S_cubes
abbrev N_from_cubes : List Str := ["cells", "a", "b", "told", "x", "y", "_", "row"]
def from_cubes_c1 : Sem0 := lcF (clF (rng1 [odK 0 1]) [6] (tgN 6) (yesF) (oneF (opF mulLD [odE [] 1 (opF lstD [odE [] 0 (cF (.int 0))]), odK 0 2])))
def from_cubes_b1 : SemS := seqS (incS 3 4 5 1) (killS 6 (killS 4 (killS 5 (nilS))))
def from_cubes_c2 : Sem0 := lcF (clF (seqSrc (rd 3)) [7] (tgN 7) (yesF) (oneF (opF tupleD [odK 0 7])))
def S_from_cubes : SemS := seqS (setS 3 (from_cubes_c1)) (seqS (forS (seqSrc (rd 0)) (tgT [tgN 4, tgN 5, tgN 6]) (from_cubes_b1)) (seqS (retS (opF tupleD [odE [] 1 (from_cubes_c2)])) (nilS)))
def F_from_cubes : Sem0 := fnF [] N_from_cubes.length S_from_cubes
abbrev N_moved : List Str := ["cells", "order", "cell"]
def moved_c1 : Sem0 := lcF (clF (seqSrc (rd 0)) [2] (tgN 2) (yesF) (oneF (opF tupD [odE [] 0 (opF ixD [odK 0 2, odE [] 0 (opF ixD [odK 0 1, odE [] 0 (cF (.int 0))])]), odE [] 0 (opF ixD [odK 0 2, odE [] 0 (opF ixD [odK 0 1, odE [] 0 (cF (.int 1))])]), odE [] 0 (opF ixD [odK 0 2, odE [] 0 (opF ixD [odK 0 1, odE [] 0 (cF (.int 2))])])])))
def S_moved : SemS := seqS (retS (opF (sortedD false) [odE [] 1 (moved_c1)])) (nilS)
def F_moved : Sem0 := fnF [] N_moved.length S_moved
abbrev N_swapped : List Str := ["rows", "at", "row"]
def swapped_c1 : Sem0 := lcF (clF (seqSrc (rd 0)) [2] (tgN 2) (yesF) (oneF (opF ixD [odK 0 2, odK 0 1])))
def swapped_c2 : Sem0 := lcF (clF (rng1 [odE [] 0 (opF lenD [odE [] 0 (opF ixD [odK 0 0, odE [] 0 (cF (.int 0))])])]) [1] (tgN 1) (yesF) (oneF (opF tupleD [odE [] 1 (swapped_c1)])))
def S_swapped : SemS := seqS (retS (opF tupleD [odE [] 1 (swapped_c2)])) (nilS)
def F_swapped : Sem0 := fnF [] N_swapped.length S_swapped
abbrev N_rolled : List Str := ["rows", "c"]
def S_rolled : SemS := seqS (retS (callF [odE [] 0 (callF [odE [] 0 (callF [odE [] 0 (rd 0)] F_cubes), odE [] 0 (opF tupD [odE [] 0 (cF (.int 2)), odE [] 0 (cF (.int 0)), odE [] 0 (cF (.int 1))])] F_moved), odE [] 0 (rd 1), odE [] 0 (opF lenD [odK 0 0])] F_from_cubes)) (nilS)
def F_rolled : Sem0 := fnF [] N_rolled.length S_rolled
abbrev N_filled_up : List Str := ["rows", "c", "row", "entry"]
def filled_up_c1 : Sem0 := lcF (clF (revSrc (rd 2)) [3] (tgN 3) (yesF) (oneF (opF subD [odK 0 1, odK 0 3])))
def filled_up_c2 : Sem0 := lcF (clF (revSrc (rd 0)) [2] (tgN 2) (yesF) (oneF (opF tupleD [odE [] 1 (filled_up_c1)])))
def S_filled_up : SemS := seqS (retS (opF tupleD [odE [] 1 (filled_up_c2)])) (nilS)
def F_filled_up : Sem0 := fnF [] N_filled_up.length S_filled_up
abbrev N_volume : List Str := ["rows", "row"]
def volume_c1 : Sem0 := lcF (clF (seqSrc (rd 0)) [1] (tgN 1) (yesF) (oneF (opF sumD [odK 0 1])))
def S_volume : SemS := seqS (retS (opF sumD [odE [] 1 (volume_c1)])) (nilS)
def F_volume : Sem0 := fnF [] N_volume.length S_volume
end VS

set_option Elab.async false
set_option linter.all false
set_option maxRecDepth 100000
set_option maxHeartbeats 4000000
/-! What the shared functions yield. -/
namespace VS
open PySem PySem.Spec PyProof.Rows L2
theorem sizeLine_eq : sizeLine = 16777216 := id rfl
/-! ### operations on data -/
theorem addD_int (i j : Int) : addD [.int i, .int j] = some (.int (i + j)) := id rfl
theorem addD_lst {xs ys : List D} (h : xs.length + ys.length ≤ sizeLine) : addD [.lst xs, .lst ys] = some (.lst (xs ++ ys)) := by unfold addD; dsimp only; rw [if_pos h]
theorem addD_tup {xs ys : List D} (h : xs.length + ys.length ≤ sizeLine) : addD [.tup xs, .tup ys] = some (.tup (xs ++ ys)) := by unfold addD; dsimp only; rw [if_pos h]
theorem subD_int (i j : Int) : subD [.int i, .int j] = some (.int (i - j)) := id rfl
theorem ltD_int (i j : Int) : ltD [.int i, .int j] = some (.bl (decide (i < j))) := id rfl
theorem leD_int (i j : Int) : leD [.int i, .int j] = some (.bl (decide (i ≤ j))) := id rfl
theorem gtD_int (i j : Int) : gtD [.int i, .int j] = some (.bl (decide (j < i))) := id rfl
theorem geD_int (i j : Int) : geD [.int i, .int j] = some (.bl (decide (j ≤ i))) := id rfl
theorem min2D_int (i j : Int) : min2D [.int i, .int j] = some (.int (if j < i then j else i)) := id rfl
theorem max2D_int (i j : Int) : max2D [.int i, .int j] = some (.int (if j > i then j else i)) := id rfl
theorem negD_int (i : Int) : negD [.int i] = some (.int (-i)) := id rfl
theorem intD_int (i : Int) : intD [.int i] = some (.int i) := id rfl
theorem intD_bl (b : Bool) : intD [.bl b] = some (.int (if b then 1 else 0)) := id rfl
theorem eqD_int (i j : Int) : eqD [.int i, .int j] = some (.bl (decide (i = j))) := id rfl
theorem neD_int (i j : Int) : neD [.int i, .int j] = some (.bl (!decide (i = j))) := id rfl
theorem eqD_bl (i j : Bool) : eqD [.bl i, .bl j] = some (.bl (i == j)) := id rfl
theorem neD_bl (i j : Bool) : neD [.bl i, .bl j] = some (.bl (!(i == j))) := id rfl
theorem lenD_lst (xs : List D) : lenD [.lst xs] = some (.int xs.length) := id rfl
theorem lenD_tup (xs : List D) : lenD [.tup xs] = some (.int xs.length) := id rfl
theorem listD_lst (xs : List D) : listD [.lst xs] = some (.lst xs) := id rfl
theorem listD_tup (xs : List D) : listD [.tup xs] = some (.lst xs) := id rfl
theorem tupleD_lst (xs : List D) : tupleD [.lst xs] = some (.tup xs) := id rfl
theorem tupleD_tup (xs : List D) : tupleD [.tup xs] = some (.tup xs) := id rfl
theorem lstD_of {xs : List D} (h : xs.length ≤ sizeLine) : lstD xs = some (.lst xs) := by unfold lstD; rw [if_pos h]
theorem tupD_of {xs : List D} (h : xs.length ≤ sizeLine) : tupD xs = some (.tup xs) := by unfold tupD; rw [if_pos h]
theorem lstD_0 : lstD [] = some (.lst []) := id rfl
theorem lstD_1 (a : D) : lstD [a] = some (.lst [a]) := id rfl
theorem lstD_2 (a b : D) : lstD [a, b] = some (.lst [a, b]) := id rfl
theorem lstD_3 (a b c : D) : lstD [a, b, c] = some (.lst [a, b, c]) := id rfl
theorem tupD_0 : tupD [] = some (.tup []) := id rfl
theorem tupD_1 (a : D) : tupD [a] = some (.tup [a]) := id rfl
theorem tupD_2 (a b : D) : tupD [a, b] = some (.tup [a, b]) := id rfl
theorem tupD_3 (a b c : D) : tupD [a, b, c] = some (.tup [a, b, c]) := id rfl
theorem slRD_lst (xs : List D) : slRD [.lst xs] = some (.lst xs.reverse) := id rfl
theorem slRD_tup (xs : List D) : slRD [.tup xs] = some (.tup xs.reverse) := id rfl
theorem fdivD_int {i j : Int} (h : 0 < j) (h2 : j < 1073741824) : fdivD [.int i, .int j] = some (.int (i / j)) := by
  show (if decide _ = true then _ else _) = _
  rw [if_pos (decide_eq_true ⟨h, .inl h2⟩)]
theorem modD_int {i j : Int} (h : 0 < j) : modD [.int i, .int j] = some (.int (i % j)) := by
  show (if decide _ = true then _ else _) = _
  rw [if_pos (decide_eq_true h)]
theorem mulD_l {i j : Int} (h : -(2 ^ 64) < i ∧ i < 2 ^ 64) : mulD [.int i, .int j] = some (.int (i * j)) := by
  show (if _ = true then _ else _) = _
  rw [if_pos (by unfold smI; rw [decide_eq_true h]; rfl)]
theorem mulD_r {i j : Int} (h : -(2 ^ 64) < j ∧ j < 2 ^ 64) : mulD [.int i, .int j] = some (.int (i * j)) := by
  show (if _ = true then _ else _) = _
  rw [if_pos (by unfold smI; rw [decide_eq_true h]; simp)]
theorem mulLD_of {xs : List D} {k : Nat} (h : xs.length * k ≤ sizeLine) (hk : k < 2 ^ 63) : mulLD [.lst xs, .int (k : Nat)] = some (.lst (List.replicate k xs).flatten) := by
  unfold mulLD
  dsimp only
  rw [if_pos ⟨by omega, by omega, by rw [Int.toNat_natCast]; exact h⟩, Int.toNat_natCast]
theorem flat_one {α : Type} (x : α) : ∀ k : Nat, (List.replicate k [x]).flatten = List.replicate k x
  | 0 => rfl
  | k + 1 => by rw [List.replicate_succ, List.flatten_cons, flat_one x k]; rfl
theorem mulLD_one {x : D} {k : Nat} (h : k ≤ sizeLine) : mulLD [.lst [x], .int (k : Nat)] = some (.lst (List.replicate k x)) := by
  rw [mulLD_of (by simpa using h) (by rw [sizeLine_eq] at h; omega), flat_one]
/-! indices -/
theorem ixN_nat {n j : Nat} (h : j < n) : ixN n (j : Int) = some j := by
  unfold ixN
  rw [if_pos (by omega), if_pos (by omega), Int.toNat_natCast]
theorem ixN_pos {n : Nat} {i : Int} (h0 : 0 ≤ i) (h : i < n) : ixN n i = some i.toNat := by
  unfold ixN
  rw [if_pos h0, if_pos h]
theorem atI_nat {α : Type} {xs : List α} {j : Nat} {x : α} (h : xs[j]? = some x) : L2.atI xs (j : Int) = some x := by
  obtain ⟨hj, _⟩ := List.getElem?_eq_some_iff.mp h
  show (ixN xs.length (j : Int)).bind _ = _
  rw [ixN_nat hj]
  exact h
theorem atI_int {α : Type} {xs : List α} {i : Int} {x : α} (h0 : 0 ≤ i) (h : xs[i.toNat]? = some x) : L2.atI xs i = some x := by
  obtain ⟨hj, _⟩ := List.getElem?_eq_some_iff.mp h
  show (ixN xs.length i).bind _ = _
  rw [ixN_pos h0 (by omega)]
  exact h
theorem ixD_lst {xs : List D} {j : Nat} {x : D} (h : xs[j]? = some x) : ixD [.lst xs, .int (j : Nat)] = some x := atI_nat h
theorem ixD_tup {xs : List D} {j : Nat} {x : D} (h : xs[j]? = some x) : ixD [.tup xs, .int (j : Nat)] = some x := atI_nat h
theorem ixD_lstI {xs : List D} {i : Int} {x : D} (h0 : 0 ≤ i) (h : xs[i.toNat]? = some x) : ixD [.lst xs, .int i] = some x := atI_int h0 h
theorem ixD_tupI {xs : List D} {i : Int} {x : D} (h0 : 0 ≤ i) (h : xs[i.toNat]? = some x) : ixD [.tup xs, .int i] = some x := atI_int h0 h
theorem map_get {α β : Type} [Inhabited α] {f : α → β} {xs : List α} {j : Nat} (h : j < xs.length) : (xs.map f)[j]? = some (f (xs.getD j default)) := by
  rw [List.getElem?_map, List.getD_eq_getElem?_getD, List.getElem?_eq_getElem h]
  rfl
theorem ixD_lstM {α : Type} [Inhabited α] {f : α → D} {xs : List α} {j : Nat} (h : j < xs.length) : ixD [.lst (xs.map f), .int (j : Nat)] = some (f (xs.getD j default)) := ixD_lst (map_get h)
theorem ixD_tupM {α : Type} [Inhabited α] {f : α → D} {xs : List α} {j : Nat} (h : j < xs.length) : ixD [.tup (xs.map f), .int (j : Nat)] = some (f (xs.getD j default)) := ixD_tup (map_get h)
/-! sources -/
theorem seqSrc_ap (f : Sem0) (ρ : List D) : seqSrc f ρ = (f ρ).bind fun p => (seqD p.1).bind fun xs => some (xs, p.2) := id rfl
theorem seqSrc_tup {f : Sem0} {ρ r xs : List D} (h : f ρ = some (.tup xs, r)) : seqSrc f ρ = some (xs, r) := by unfold seqSrc; rw [h]; rfl
theorem seqSrc_lst {f : Sem0} {ρ r xs : List D} (h : f ρ = some (.lst xs, r)) : seqSrc f ρ = some (xs, r) := by unfold seqSrc; rw [h]; rfl
theorem enumSrc_tup {f : Sem0} {ρ r xs : List D} (h : f ρ = some (.tup xs, r)) : enumSrc f ρ = some (enumD 0 xs, r) := by unfold enumSrc; rw [h]; rfl
theorem enumSrc_lst {f : Sem0} {ρ r xs : List D} (h : f ρ = some (.lst xs, r)) : enumSrc f ρ = some (enumD 0 xs, r) := by unfold enumSrc; rw [h]; rfl
theorem revSrc_tup {f : Sem0} {ρ r xs : List D} (h : f ρ = some (.tup xs, r)) : revSrc f ρ = some (xs.reverse, r) := by unfold revSrc; rw [h]; rfl
theorem revSrc_lst {f : Sem0} {ρ r xs : List D} (h : f ρ = some (.lst xs, r)) : revSrc f ρ = some (xs.reverse, r) := by unfold revSrc; rw [h]; rfl
theorem zipSrc_tup {f g : Sem0} {ρ r r2 xs ys : List D} (h : f ρ = some (.tup xs, r)) (h2 : g r = some (.tup ys, r2)) : zipSrc f g ρ = some (zipD xs ys, r2) := by unfold zipSrc; rw [h]; show (g r).bind _ = _; rw [h2]; rfl
theorem zipSrc_lst {f g : Sem0} {ρ r r2 xs ys : List D} (h : f ρ = some (.lst xs, r)) (h2 : g r = some (.lst ys, r2)) : zipSrc f g ρ = some (zipD xs ys, r2) := by unfold zipSrc; rw [h]; show (g r).bind _ = _; rw [h2]; rfl
theorem inB_of {i : Int} (h : -(2 ^ 62) ≤ i ∧ i < 2 ^ 62) : inB i = true := decide_eq_true h
def eN (n : Nat) : D := .int (n : Int)
theorem rngD_0 (n : Nat) : rngD 0 n = (List.range n).map eN := by
  unfold rngD eN
  exact List.map_congr_left fun i _ => by rw [Int.zero_add]
theorem rng1_of {os : List Od} {ρ r : List D} {n : Nat} (h : seqF os ρ = some ([.int (n : Nat)], r)) (hn : n < 2 ^ 62) : rng1 os ρ = some ((List.range n).map eN, r) := by
  unfold rng1
  rw [h, Option.bind_some]
  dsimp only
  rw [if_pos (inB_of (by omega)), Int.toNat_natCast, rngD_0]
theorem rng1_neg {os : List Od} {ρ r : List D} {i : Int} (h : seqF os ρ = some ([.int i], r)) (hn : i ≤ 0) (hb : -(2 ^ 62) ≤ i) : rng1 os ρ = some ([], r) := by
  unfold rng1
  rw [h, Option.bind_some]
  dsimp only
  rw [if_pos (inB_of (by omega)), show i.toNat = 0 by omega]
  rfl
theorem rng2_of {os : List Od} {ρ r : List D} {a b : Nat} (h : seqF os ρ = some ([.int (a : Nat), .int (b : Nat)], r)) (ha : a < 2 ^ 62) (hb : b < 2 ^ 62) : rng2 os ρ = some ((List.range' a (b - a)).map eN, r) := by
  unfold rng2
  rw [h, Option.bind_some]
  dsimp only
  rw [if_pos ⟨inB_of (by omega), inB_of (by omega)⟩, show ((b : Int) - (a : Int)).toNat = b - a by omega]
  unfold rngD
  rw [List.range'_eq_map_range, List.map_map]
  refine congrArg (fun z => some (z, r)) (List.map_congr_left fun i _ => ?_)
  show D.int _ = D.int _
  congr 1
theorem enumD_map {α : Type} (f : α → D) : ∀ (n : Nat) (xs : List α), enumD n (xs.map f) = (xs.zipIdx n).map fun p => .tup [.int (p.2 : Nat), f p.1]
  | _, [] => rfl
  | n, x :: xs => by
    rw [List.map_cons, List.zipIdx_cons, List.map_cons]
    show _ :: enumD (n + 1) (xs.map f) = _
    rw [enumD_map f (n + 1) xs]
theorem zipD_map {α β : Type} (f : α → D) (g : β → D) : ∀ (xs : List α) (ys : List β), zipD (xs.map f) (ys.map g) = (xs.zip ys).map fun p => .tup [f p.1, g p.2]
  | [], ys => by rw [List.zip_nil_left]; unfold zipD; rfl
  | _ :: _, [] => by rw [List.zip_nil_right]; unfold zipD; rfl
  | x :: xs, y :: ys => by
    rw [List.map_cons, List.map_cons, List.zip_cons_cons, List.map_cons]
    show _ :: zipD (xs.map f) (ys.map g) = _
    rw [zipD_map f g xs ys]
/-! sums, all, any, max -/
theorem intsD_map (ns : List Int) : intsD (ns.map .int) = some ns := by
  induction ns with
  | nil => rfl
  | cons n ns ih => show (intsD (ns.map .int)).map _ = _; rw [ih]; rfl
theorem intsD_eN (ns : List Nat) : intsD (ns.map eN) = some (ns.map fun n : Nat => (n : Int)) := by
  rw [← intsD_map, List.map_map]; rfl
theorem sum_cast : ∀ ns : List Nat, (ns.map fun n : Nat => (n : Int)).sum = ((ns.sum : Nat) : Int)
  | [] => rfl
  | n :: ns => by rw [List.map_cons, List.sum_cons, List.sum_cons, sum_cast ns]; omega
theorem sumD_tupN (ns : List Nat) : sumD [.tup (ns.map eN)] = some (eN ns.sum) := by
  show ((intsD (ns.map eN)).map fun ns => D.int ns.sum) = _
  rw [intsD_eN]; show some (D.int _) = _; rw [sum_cast]; rfl
theorem sumD_lstN (ns : List Nat) : sumD [.lst (ns.map eN)] = some (eN ns.sum) := sumD_tupN ns
theorem sumD_tupI (ns : List Int) : sumD [.tup (ns.map .int)] = some (.int ns.sum) := by
  show ((intsD (ns.map .int)).map fun ns => D.int ns.sum) = _
  rw [intsD_map]; rfl
theorem sumD_lstI (ns : List Int) : sumD [.lst (ns.map .int)] = some (.int ns.sum) := sumD_tupI ns
theorem blsD_map {α : Type} (f : α → Bool) (xs : List α) : blsD (xs.map fun x => .bl (f x)) = some (xs.map f) := by
  induction xs with
  | nil => rfl
  | cons x xs ih => show (blsD (xs.map fun x => .bl (f x))).map _ = _; rw [ih]; rfl
theorem allD_map {α : Type} (f : α → Bool) (xs : List α) : allD [.lst (xs.map fun x => .bl (f x))] = some (.bl (xs.all f)) := by
  show (blsD _).map _ = _
  rw [blsD_map]; show some (D.bl _) = _; rw [List.all_map]; rfl
theorem anyD_map {α : Type} (f : α → Bool) (xs : List α) : anyD [.lst (xs.map fun x => .bl (f x))] = some (.bl (xs.any f)) := by
  show (blsD _).map _ = _
  rw [blsD_map]; show some (D.bl _) = _; rw [List.any_map]; rfl
/-! ### data that equal themselves -/
namespace D
theorem fit_mono : ∀ {n m : Nat} {d : D}, n ≤ m → fit n d = true → fit m d = true
  | 0, _, d, _, h => by cases d <;> simp [fit] at h
  | n + 1, 0, d, h, _ => absurd h (by omega)
  | n + 1, m + 1, d, h, hf => by
    cases d with
    | tup xs =>
      unfold fit at hf ⊢
      exact List.all_eq_true.mpr fun x hx => fit_mono (Nat.le_of_succ_le_succ h) (List.all_eq_true.mp hf x hx)
    | lst xs =>
      unfold fit at hf ⊢
      exact List.all_eq_true.mpr fun x hx => fit_mono (Nat.le_of_succ_le_succ h) (List.all_eq_true.mp hf x hx)
    | _ => first | exact hf | rfl
/-- for _law_exact: no dict, lists of at most so many -/
def okx : Nat → D → Bool
  | 0, _ => false
  | n + 1, .tup xs => decide (xs.length ≤ sizeLine) && xs.all (okx n)
  | n + 1, .lst xs => decide (xs.length ≤ sizeLine) && xs.all (okx n)
  | _ + 1, .und => false
  | _ + 1, .dct .. => false
  | _ + 1, _ => true
end D
theorem eqD_refl {d : D} (h : D.fit 40 d = true) : eqD [d, d] = some (.bl true) := by
  show (if (D.fit D.dep d && D.fit D.dep d) = true then _ else _) = _
  rw [if_pos (by show (D.fit 40 d && D.fit 40 d) = true; rw [h]; rfl), D.eqv_refl 40 d h]
theorem neD_refl {d : D} (h : D.fit 40 d = true) : neD [d, d] = some (.bl false) := by
  show (if (D.fit D.dep d && D.fit D.dep d) = true then _ else _) = _
  rw [if_pos (by show (D.fit 40 d && D.fit 40 d) = true; rw [h]; rfl), D.eqv_refl 40 d h]
  rfl
theorem isiT1 (b : Bool) : isiD "list" [.bl b] = some (.bl false) ∧ isiD "tuple" [.bl b] = some (.bl false) ∧ isiD "str" [.bl b] = some (.bl false) ∧ isiD "bool" [.bl b] = some (.bl true) ∧ isiD "int" [.bl b] = some (.bl true) ∧ isi2D "list" "tuple" [.bl b] = some (.bl false) := ⟨id rfl, id rfl, id rfl, id rfl, id rfl, id rfl⟩
theorem isiT2 (i : Int) : isiD "list" [.int i] = some (.bl false) ∧ isiD "tuple" [.int i] = some (.bl false) ∧ isiD "str" [.int i] = some (.bl false) ∧ isiD "bool" [.int i] = some (.bl false) ∧ isiD "int" [.int i] = some (.bl true) ∧ isi2D "list" "tuple" [.int i] = some (.bl false) := ⟨id rfl, id rfl, id rfl, id rfl, id rfl, id rfl⟩
theorem isiT3 (i : Str) : isiD "list" [.str i] = some (.bl false) ∧ isiD "tuple" [.str i] = some (.bl false) ∧ isiD "str" [.str i] = some (.bl true) ∧ isiD "bool" [.str i] = some (.bl false) ∧ isiD "int" [.str i] = some (.bl false) ∧ isi2D "list" "tuple" [.str i] = some (.bl false) := ⟨id rfl, id rfl, id rfl, id rfl, id rfl, id rfl⟩
theorem isiT4 (i : List D) : isiD "list" [.lst i] = some (.bl true) ∧ isiD "tuple" [.lst i] = some (.bl false) ∧ isi2D "list" "tuple" [.lst i] = some (.bl true) := ⟨id rfl, id rfl, id rfl⟩
theorem isiT5 (i : List D) : isiD "list" [.tup i] = some (.bl false) ∧ isiD "tuple" [.tup i] = some (.bl true) ∧ isi2D "list" "tuple" [.tup i] = some (.bl true) := ⟨id rfl, id rfl, id rfl⟩
theorem isiT6 : isi2D "list" "tuple" [.non] = some (.bl false) := id rfl
/-! ### natural numbers -/
theorem int_eN (n : Nat) : D.int (n : Int) = eN n := id rfl
theorem int_0 : D.int 0 = eN 0 := id rfl
theorem int_1 : D.int 1 = eN 1 := id rfl
theorem int_2 : D.int 2 = eN 2 := id rfl
theorem int_3 : D.int 3 = eN 3 := id rfl
theorem eN_rd (n : Nat) (ρ : List D) : rdC (some (eN n)) ρ = some (eN n, ρ) := id rfl
theorem addD_eN (i j : Nat) : addD [eN i, eN j] = some (eN (i + j)) := by unfold eN; rw [addD_int, Int.natCast_add]
theorem subD_eN {i j : Nat} (h : j ≤ i) : subD [eN i, eN j] = some (eN (i - j)) := by unfold eN; rw [subD_int]; exact congrArg (fun z => some (D.int z)) (by omega)
theorem mulD_eN {i j : Nat} (h : i < 2 ^ 64) : mulD [eN i, eN j] = some (eN (i * j)) := by unfold eN; rw [mulD_l (by omega), Int.natCast_mul]
theorem eqD_eN (i j : Nat) : eqD [eN i, eN j] = some (.bl (decide (i = j))) := by unfold eN; rw [eqD_int]; exact congrArg (fun z => some (D.bl z)) (decide_eq_decide.mpr (by omega))
theorem neD_eN (i j : Nat) : neD [eN i, eN j] = some (.bl (!decide (i = j))) := by unfold eN; rw [neD_int]; exact congrArg (fun z => some (D.bl (!z))) (decide_eq_decide.mpr (by omega))
theorem ltD_eN (i j : Nat) : ltD [eN i, eN j] = some (.bl (decide (i < j))) := by unfold eN; rw [ltD_int]; exact congrArg (fun z => some (D.bl z)) (decide_eq_decide.mpr (by omega))
theorem leD_eN (i j : Nat) : leD [eN i, eN j] = some (.bl (decide (i ≤ j))) := by unfold eN; rw [leD_int]; exact congrArg (fun z => some (D.bl z)) (decide_eq_decide.mpr (by omega))
theorem gtD_eN (i j : Nat) : gtD [eN i, eN j] = some (.bl (decide (j < i))) := by unfold eN; rw [gtD_int]; exact congrArg (fun z => some (D.bl z)) (decide_eq_decide.mpr (by omega))
theorem geD_eN (i j : Nat) : geD [eN i, eN j] = some (.bl (decide (j ≤ i))) := by unfold eN; rw [geD_int]; exact congrArg (fun z => some (D.bl z)) (decide_eq_decide.mpr (by omega))
theorem min2D_eN (i j : Nat) : min2D [eN i, eN j] = some (eN (min i j)) := by unfold eN; rw [min2D_int]; exact congrArg (fun z => some (D.int z)) (by split <;> omega)
theorem max2D_eN (i j : Nat) : max2D [eN i, eN j] = some (eN (max i j)) := by unfold eN; rw [max2D_int]; exact congrArg (fun z => some (D.int z)) (by split <;> omega)
theorem min3D_eN (i j k : Nat) : min3D [eN i, eN j, eN k] = some (eN (min i (min j k))) := by
  show some (D.int (mn3 i j k)) = some (D.int _)
  exact congrArg (fun z => some (D.int z)) (by unfold mn3; split <;> split <;> omega)
theorem intD_eN (i : Nat) : intD [eN i] = some (eN i) := id rfl
theorem modD_eN {i j : Nat} (h : 0 < j) : modD [eN i, eN j] = some (eN (i % j)) := by unfold eN; rw [modD_int (by omega), Int.natCast_emod]
theorem fdivD_eN {i j : Nat} (h : 0 < j) (h2 : j < 1073741824) : fdivD [eN i, eN j] = some (eN (i / j)) := by unfold eN; rw [fdivD_int (by omega) (by omega), Int.natCast_ediv]
theorem lenD_lstN (xs : List D) : lenD [.lst xs] = some (eN xs.length) := id rfl
theorem lenD_tupN (xs : List D) : lenD [.tup xs] = some (eN xs.length) := id rfl
/-! ### drawn data are plain -/
namespace D
theorem okx_mono : ∀ {n m : Nat} {d : D}, n ≤ m → okx n d = true → okx m d = true
  | 0, _, d, _, h => by cases d <;> simp [okx] at h
  | n + 1, 0, d, h, _ => absurd h (by omega)
  | n + 1, m + 1, d, h, hf => by
    cases d with
    | tup xs =>
      simp only [okx, Bool.and_eq_true, List.all_eq_true] at hf ⊢
      exact ⟨hf.1, fun x hx => okx_mono (Nat.le_of_succ_le_succ h) (hf.2 x hx)⟩
    | lst xs =>
      simp only [okx, Bool.and_eq_true, List.all_eq_true] at hf ⊢
      exact ⟨hf.1, fun x hx => okx_mono (Nat.le_of_succ_le_succ h) (hf.2 x hx)⟩
    | _ => first | exact hf | rfl | (simp [okx] at hf)
theorem fit_okx : ∀ {n : Nat} {d : D}, okx n d = true → fit n d = true
  | 0, d, h => by cases d <;> simp [okx] at h
  | n + 1, d, h => by
    cases d with
    | tup xs =>
      simp only [okx, Bool.and_eq_true, List.all_eq_true] at h
      unfold fit
      exact List.all_eq_true.mpr fun x hx => fit_okx (h.2 x hx)
    | lst xs =>
      simp only [okx, Bool.and_eq_true, List.all_eq_true] at h
      unfold fit
      exact List.all_eq_true.mpr fun x hx => fit_okx (h.2 x hx)
    | _ => first | rfl | (simp [okx] at h)
theorem okx_lst {n : Nat} {xs : List D} (h : xs.length ≤ sizeLine) (ha : ∀ x ∈ xs, okx n x = true) : okx (n + 1) (.lst xs) = true := by
  simp only [okx, Bool.and_eq_true, List.all_eq_true, decide_eq_true_eq]
  exact ⟨h, ha⟩
theorem okx_tup {n : Nat} {xs : List D} (h : xs.length ≤ sizeLine) (ha : ∀ x ∈ xs, okx n x = true) : okx (n + 1) (.tup xs) = true := by
  simp only [okx, Bool.and_eq_true, List.all_eq_true, decide_eq_true_eq]
  exact ⟨h, ha⟩
end D
theorem okx_eN (n m : Nat) : D.okx (n + 1) (eN m) = true := rfl
theorem eqD_ok {d : D} {n : Nat} (h : D.okx n d = true) (hn : n ≤ 40) : eqD [d, d] = some (.bl true) := eqD_refl (D.fit_mono hn (D.fit_okx h))
theorem neD_ok {d : D} {n : Nat} (h : D.okx n d = true) (hn : n ≤ 40) : neD [d, d] = some (.bl false) := neD_refl (D.fit_mono hn (D.fit_okx h))
end VS

set_option Elab.async false
set_option linter.all false
set_option maxRecDepth 100000
set_option maxHeartbeats 4000000
/-! draws, _law_exact, and what is drawn. -/
namespace VS
open PySem PySem.Spec PyProof.Rows L2
theorem exact_c1 {self : Sem0} (w : List D → D) (xs : List D) (hi : ∀ z, ixD [w xs, .int z] = L2.atI xs z) (hl : lenD [w xs] = some (.int xs.length)) (hu : w xs ≠ .und) (hs : xs.length ≤ sizeLine)
    (ih : ∀ x ∈ xs, self [x, x] = some (.bl true, [x, x])) : ulaw_exact_c1 self [w xs, w xs, .und, .und] = some (.lst ((List.range xs.length).map fun _ => .bl true), [w xs, w xs, .und, .und]) := by
  have hrd : ∀ ρ, rdC (some (w xs)) ρ = some (w xs, ρ) := rdC_ne hu
  refine lc_map (e := eN) (fun i => [w xs, w xs, .und, eN i]) (fun _ => .bl true) (rng1_of (by simp only [seqS_ap, contS_nx, contS_rt, contS_bk, contS_ct, nilS_ap, killS_ap, setS_ap, setC_so, dropS_ap, dropC_so, retS_ap, retC_so, retN_ap, bkS_ap, ctS_ap, ifS_ap, ifC_t, ifC_f, forS_ap, forC_so, asgS_ap, asgC_so, seqF_nil, seqF_cons, seqC_so, seqC2_so, odK_f, odK_al, odE_f, odE_al, opF_ap, opC_so, opC2_so, cF_ap, rd_ap, rdC_non, rdC_bl, rdC_int, rdC_str, rdC_tup, rdC_lst, rdC_dct, callF_ap, callC_so, callC2_so, wb_nil, wb_e, wb_k, tstF_ap, tstC_so, notF_ap, notC_so, andF_ap, andC_t, andC_f, orF_ap, orC_t, orC_f, ifF_ap, ifFC_t, ifFC_f, blF_ap, blC_so, andV_ap, andVC_t, andVC_f, orV_ap, orVC_t, orVC_f, notV_ap, notVC_so, truO_ap, truC_bl, truC_int, truC_lst, truC_tup, truC_non, fnF_ap, fnC_rt, fnC_nx, par2_ap, parC_so, parC2_so, par3_ap, par3C_so, par3C2_so, par3C3_so, tgN_ap, tgT2_ap, tgT3_ap, appF_ap, appC0_so, stS_ap, stC_so, stC1_so, yesF_ap, List.set_cons_zero, List.set_cons_succ, List.getElem?_cons_zero, List.getElem?_cons_succ, Option.map_some, Bool.not_true, Bool.not_false, Bool.false_eq_true, if_true, if_false, reduceCtorEq, addD_int, subD_int, ltD_int, leD_int, gtD_int, geD_int, min2D_int, max2D_int, negD_int, intD_int, intD_bl, eqD_int, neD_int, eqD_bl, neD_bl, lenD_lst, lenD_tup, listD_lst, listD_tup, tupleD_lst, tupleD_tup, lstD_0, lstD_1, lstD_2, lstD_3, tupD_0, tupD_1, tupD_2, tupD_3, slRD_lst, slRD_tup, hrd, hl]) (by rw [sizeLine_eq] at hs; omega)) (fun _ _ => rfl) (fun i hi2 => ?_) (fun _ _ => rfl) rfl (by rw [List.length_range]; exact hs)
  have hlt := List.mem_range.mp hi2
  have e1 : xs[i]? = some xs[i] := List.getElem?_eq_getElem hlt
  have hx := ih xs[i] (List.getElem_mem hlt)
  simp only [eN, seqS_ap, contS_nx, contS_rt, contS_bk, contS_ct, nilS_ap, killS_ap, setS_ap, setC_so, dropS_ap, dropC_so, retS_ap, retC_so, retN_ap, bkS_ap, ctS_ap, ifS_ap, ifC_t, ifC_f, forS_ap, forC_so, asgS_ap, asgC_so, seqF_nil, seqF_cons, seqC_so, seqC2_so, odK_f, odK_al, odE_f, odE_al, opF_ap, opC_so, opC2_so, cF_ap, rd_ap, rdC_non, rdC_bl, rdC_int, rdC_str, rdC_tup, rdC_lst, rdC_dct, callF_ap, callC_so, callC2_so, wb_nil, wb_e, wb_k, tstF_ap, tstC_so, notF_ap, notC_so, andF_ap, andC_t, andC_f, orF_ap, orC_t, orC_f, ifF_ap, ifFC_t, ifFC_f, blF_ap, blC_so, andV_ap, andVC_t, andVC_f, orV_ap, orVC_t, orVC_f, notV_ap, notVC_so, truO_ap, truC_bl, truC_int, truC_lst, truC_tup, truC_non, fnF_ap, fnC_rt, fnC_nx, par2_ap, parC_so, parC2_so, par3_ap, par3C_so, par3C2_so, par3C3_so, tgN_ap, tgT2_ap, tgT3_ap, appF_ap, appC0_so, stS_ap, stC_so, stC1_so, yesF_ap, List.set_cons_zero, List.set_cons_succ, List.getElem?_cons_zero, List.getElem?_cons_succ, Option.map_some, Bool.not_true, Bool.not_false, Bool.false_eq_true, if_true, if_false, reduceCtorEq, addD_int, subD_int, ltD_int, leD_int, gtD_int, geD_int, min2D_int, max2D_int, negD_int, intD_int, intD_bl, eqD_int, neD_int, eqD_bl, neD_bl, lenD_lst, lenD_tup, listD_lst, listD_tup, tupleD_lst, tupleD_tup, lstD_0, lstD_1, lstD_2, lstD_3, tupD_0, tupD_1, tupD_2, tupD_3, slRD_lst, slRD_tup, hrd, hi, atI_nat e1, hx]
theorem exact_tup {self : Sem0} {xs : List D} (hs : xs.length ≤ sizeLine) (ih : ∀ x ∈ xs, self [x, x] = some (.bl true, [x, x])) : S_ulaw_exact self [.tup xs, .tup xs, .und, .und] = some (.rt (.bl true) [.tup xs, .tup xs, .und, .und]) := by
  have hc := exact_c1 .tup xs (fun _ => rfl) rfl (fun z => by cases z) hs ih
  have ha := allD_map (fun _ => true) (List.range xs.length)
  have hb : (List.range xs.length).all (fun _ => true) = true := List.all_eq_true.mpr fun _ _ => rfl
  rw [hb] at ha
  unfold S_ulaw_exact
  simp only [seqS_ap, contS_nx, contS_rt, contS_bk, contS_ct, nilS_ap, killS_ap, setS_ap, setC_so, dropS_ap, dropC_so, retS_ap, retC_so, retN_ap, bkS_ap, ctS_ap, ifS_ap, ifC_t, ifC_f, forS_ap, forC_so, asgS_ap, asgC_so, seqF_nil, seqF_cons, seqC_so, seqC2_so, odK_f, odK_al, odE_f, odE_al, opF_ap, opC_so, opC2_so, cF_ap, rd_ap, rdC_non, rdC_bl, rdC_int, rdC_str, rdC_tup, rdC_lst, rdC_dct, callF_ap, callC_so, callC2_so, wb_nil, wb_e, wb_k, tstF_ap, tstC_so, notF_ap, notC_so, andF_ap, andC_t, andC_f, orF_ap, orC_t, orC_f, ifF_ap, ifFC_t, ifFC_f, blF_ap, blC_so, andV_ap, andVC_t, andVC_f, orV_ap, orVC_t, orVC_f, notV_ap, notVC_so, truO_ap, truC_bl, truC_int, truC_lst, truC_tup, truC_non, fnF_ap, fnC_rt, fnC_nx, par2_ap, parC_so, parC2_so, par3_ap, par3C_so, par3C2_so, par3C3_so, tgN_ap, tgT2_ap, tgT3_ap, appF_ap, appC0_so, stS_ap, stC_so, stC1_so, yesF_ap, List.set_cons_zero, List.set_cons_succ, List.getElem?_cons_zero, List.getElem?_cons_succ, Option.map_some, Bool.not_true, Bool.not_false, Bool.false_eq_true, if_true, if_false, reduceCtorEq, addD_int, subD_int, ltD_int, leD_int, gtD_int, geD_int, min2D_int, max2D_int, negD_int, intD_int, intD_bl, eqD_int, neD_int, eqD_bl, neD_bl, lenD_lst, lenD_tup, listD_lst, listD_tup, tupleD_lst, tupleD_tup, lstD_0, lstD_1, lstD_2, lstD_3, tupD_0, tupD_1, tupD_2, tupD_3, slRD_lst, slRD_tup, isiT5, beq_self_eq_true, decide_true, hc, ha]
theorem exact_lst {self : Sem0} {xs : List D} (hs : xs.length ≤ sizeLine) (ih : ∀ x ∈ xs, self [x, x] = some (.bl true, [x, x])) : S_ulaw_exact self [.lst xs, .lst xs, .und, .und] = some (.rt (.bl true) [.lst xs, .lst xs, .und, .und]) := by
  have hc := exact_c1 .lst xs (fun _ => rfl) rfl (fun z => by cases z) hs ih
  have ha := allD_map (fun _ => true) (List.range xs.length)
  have hb : (List.range xs.length).all (fun _ => true) = true := List.all_eq_true.mpr fun _ _ => rfl
  rw [hb] at ha
  unfold S_ulaw_exact
  simp only [seqS_ap, contS_nx, contS_rt, contS_bk, contS_ct, nilS_ap, killS_ap, setS_ap, setC_so, dropS_ap, dropC_so, retS_ap, retC_so, retN_ap, bkS_ap, ctS_ap, ifS_ap, ifC_t, ifC_f, forS_ap, forC_so, asgS_ap, asgC_so, seqF_nil, seqF_cons, seqC_so, seqC2_so, odK_f, odK_al, odE_f, odE_al, opF_ap, opC_so, opC2_so, cF_ap, rd_ap, rdC_non, rdC_bl, rdC_int, rdC_str, rdC_tup, rdC_lst, rdC_dct, callF_ap, callC_so, callC2_so, wb_nil, wb_e, wb_k, tstF_ap, tstC_so, notF_ap, notC_so, andF_ap, andC_t, andC_f, orF_ap, orC_t, orC_f, ifF_ap, ifFC_t, ifFC_f, blF_ap, blC_so, andV_ap, andVC_t, andVC_f, orV_ap, orVC_t, orVC_f, notV_ap, notVC_so, truO_ap, truC_bl, truC_int, truC_lst, truC_tup, truC_non, fnF_ap, fnC_rt, fnC_nx, par2_ap, parC_so, parC2_so, par3_ap, par3C_so, par3C2_so, par3C3_so, tgN_ap, tgT2_ap, tgT3_ap, appF_ap, appC0_so, stS_ap, stC_so, stC1_so, yesF_ap, List.set_cons_zero, List.set_cons_succ, List.getElem?_cons_zero, List.getElem?_cons_succ, Option.map_some, Bool.not_true, Bool.not_false, Bool.false_eq_true, if_true, if_false, reduceCtorEq, addD_int, subD_int, ltD_int, leD_int, gtD_int, geD_int, min2D_int, max2D_int, negD_int, intD_int, intD_bl, eqD_int, neD_int, eqD_bl, neD_bl, lenD_lst, lenD_tup, listD_lst, listD_tup, tupleD_lst, tupleD_tup, lstD_0, lstD_1, lstD_2, lstD_3, tupD_0, tupD_1, tupD_2, tupD_3, slRD_lst, slRD_tup, isiT4, beq_self_eq_true, decide_true, hc, ha]
theorem exact_non {self : Sem0} : S_ulaw_exact self [.non, .non, .und, .und] = some (.rt (.bl true) [.non, .non, .und, .und]) := by unfold S_ulaw_exact; simp only [seqS_ap, contS_nx, contS_rt, contS_bk, contS_ct, nilS_ap, killS_ap, setS_ap, setC_so, dropS_ap, dropC_so, retS_ap, retC_so, retN_ap, bkS_ap, ctS_ap, ifS_ap, ifC_t, ifC_f, forS_ap, forC_so, asgS_ap, asgC_so, seqF_nil, seqF_cons, seqC_so, seqC2_so, odK_f, odK_al, odE_f, odE_al, opF_ap, opC_so, opC2_so, cF_ap, rd_ap, rdC_non, rdC_bl, rdC_int, rdC_str, rdC_tup, rdC_lst, rdC_dct, callF_ap, callC_so, callC2_so, wb_nil, wb_e, wb_k, tstF_ap, tstC_so, notF_ap, notC_so, andF_ap, andC_t, andC_f, orF_ap, orC_t, orC_f, ifF_ap, ifFC_t, ifFC_f, blF_ap, blC_so, andV_ap, andVC_t, andVC_f, orV_ap, orVC_t, orVC_f, notV_ap, notVC_so, truO_ap, truC_bl, truC_int, truC_lst, truC_tup, truC_non, fnF_ap, fnC_rt, fnC_nx, par2_ap, parC_so, parC2_so, par3_ap, par3C_so, par3C2_so, par3C3_so, tgN_ap, tgT2_ap, tgT3_ap, appF_ap, appC0_so, stS_ap, stC_so, stC1_so, yesF_ap, List.set_cons_zero, List.set_cons_succ, List.getElem?_cons_zero, List.getElem?_cons_succ, Option.map_some, Bool.not_true, Bool.not_false, Bool.false_eq_true, if_true, if_false, reduceCtorEq, addD_int, subD_int, ltD_int, leD_int, gtD_int, geD_int, min2D_int, max2D_int, negD_int, intD_int, intD_bl, eqD_int, neD_int, eqD_bl, neD_bl, lenD_lst, lenD_tup, listD_lst, listD_tup, tupleD_lst, tupleD_tup, lstD_0, lstD_1, lstD_2, lstD_3, tupD_0, tupD_1, tupD_2, tupD_3, slRD_lst, slRD_tup, isiT6, isND]
theorem exact_bl {self : Sem0} {b : Bool} : S_ulaw_exact self [.bl b, .bl b, .und, .und] = some (.rt (.bl true) [.bl b, .bl b, .bl true, .und]) := by unfold S_ulaw_exact; simp only [seqS_ap, contS_nx, contS_rt, contS_bk, contS_ct, nilS_ap, killS_ap, setS_ap, setC_so, dropS_ap, dropC_so, retS_ap, retC_so, retN_ap, bkS_ap, ctS_ap, ifS_ap, ifC_t, ifC_f, forS_ap, forC_so, asgS_ap, asgC_so, seqF_nil, seqF_cons, seqC_so, seqC2_so, odK_f, odK_al, odE_f, odE_al, opF_ap, opC_so, opC2_so, cF_ap, rd_ap, rdC_non, rdC_bl, rdC_int, rdC_str, rdC_tup, rdC_lst, rdC_dct, callF_ap, callC_so, callC2_so, wb_nil, wb_e, wb_k, tstF_ap, tstC_so, notF_ap, notC_so, andF_ap, andC_t, andC_f, orF_ap, orC_t, orC_f, ifF_ap, ifFC_t, ifFC_f, blF_ap, blC_so, andV_ap, andVC_t, andVC_f, orV_ap, orVC_t, orVC_f, notV_ap, notVC_so, truO_ap, truC_bl, truC_int, truC_lst, truC_tup, truC_non, fnF_ap, fnC_rt, fnC_nx, par2_ap, parC_so, parC2_so, par3_ap, par3C_so, par3C2_so, par3C3_so, tgN_ap, tgT2_ap, tgT3_ap, appF_ap, appC0_so, stS_ap, stC_so, stC1_so, yesF_ap, List.set_cons_zero, List.set_cons_succ, List.getElem?_cons_zero, List.getElem?_cons_succ, Option.map_some, Bool.not_true, Bool.not_false, Bool.false_eq_true, if_true, if_false, reduceCtorEq, addD_int, subD_int, ltD_int, leD_int, gtD_int, geD_int, min2D_int, max2D_int, negD_int, intD_int, intD_bl, eqD_int, neD_int, eqD_bl, neD_bl, lenD_lst, lenD_tup, listD_lst, listD_tup, tupleD_lst, tupleD_tup, lstD_0, lstD_1, lstD_2, lstD_3, tupD_0, tupD_1, tupD_2, tupD_3, slRD_lst, slRD_tup, isiT1, isND, beq_self_eq_true]
theorem exact_int {self : Sem0} {b : Int} : S_ulaw_exact self [.int b, .int b, .und, .und] = some (.rt (.bl true) [.int b, .int b, .bl true, .und]) := by unfold S_ulaw_exact; simp only [seqS_ap, contS_nx, contS_rt, contS_bk, contS_ct, nilS_ap, killS_ap, setS_ap, setC_so, dropS_ap, dropC_so, retS_ap, retC_so, retN_ap, bkS_ap, ctS_ap, ifS_ap, ifC_t, ifC_f, forS_ap, forC_so, asgS_ap, asgC_so, seqF_nil, seqF_cons, seqC_so, seqC2_so, odK_f, odK_al, odE_f, odE_al, opF_ap, opC_so, opC2_so, cF_ap, rd_ap, rdC_non, rdC_bl, rdC_int, rdC_str, rdC_tup, rdC_lst, rdC_dct, callF_ap, callC_so, callC2_so, wb_nil, wb_e, wb_k, tstF_ap, tstC_so, notF_ap, notC_so, andF_ap, andC_t, andC_f, orF_ap, orC_t, orC_f, ifF_ap, ifFC_t, ifFC_f, blF_ap, blC_so, andV_ap, andVC_t, andVC_f, orV_ap, orVC_t, orVC_f, notV_ap, notVC_so, truO_ap, truC_bl, truC_int, truC_lst, truC_tup, truC_non, fnF_ap, fnC_rt, fnC_nx, par2_ap, parC_so, parC2_so, par3_ap, par3C_so, par3C2_so, par3C3_so, tgN_ap, tgT2_ap, tgT3_ap, appF_ap, appC0_so, stS_ap, stC_so, stC1_so, yesF_ap, List.set_cons_zero, List.set_cons_succ, List.getElem?_cons_zero, List.getElem?_cons_succ, Option.map_some, Bool.not_true, Bool.not_false, Bool.false_eq_true, if_true, if_false, reduceCtorEq, addD_int, subD_int, ltD_int, leD_int, gtD_int, geD_int, min2D_int, max2D_int, negD_int, intD_int, intD_bl, eqD_int, neD_int, eqD_bl, neD_bl, lenD_lst, lenD_tup, listD_lst, listD_tup, tupleD_lst, tupleD_tup, lstD_0, lstD_1, lstD_2, lstD_3, tupD_0, tupD_1, tupD_2, tupD_3, slRD_lst, slRD_tup, isiT2, isND, beq_self_eq_true, decide_true]
theorem exact_str {self : Sem0} {b : Str} : S_ulaw_exact self [.str b, .str b, .und, .und] = some (.rt (.bl true) [.str b, .str b, .bl true, .und]) := by
  have e : eqD [.str b, .str b] = some (.bl true) := eqD_refl rfl
  unfold S_ulaw_exact
  simp only [seqS_ap, contS_nx, contS_rt, contS_bk, contS_ct, nilS_ap, killS_ap, setS_ap, setC_so, dropS_ap, dropC_so, retS_ap, retC_so, retN_ap, bkS_ap, ctS_ap, ifS_ap, ifC_t, ifC_f, forS_ap, forC_so, asgS_ap, asgC_so, seqF_nil, seqF_cons, seqC_so, seqC2_so, odK_f, odK_al, odE_f, odE_al, opF_ap, opC_so, opC2_so, cF_ap, rd_ap, rdC_non, rdC_bl, rdC_int, rdC_str, rdC_tup, rdC_lst, rdC_dct, callF_ap, callC_so, callC2_so, wb_nil, wb_e, wb_k, tstF_ap, tstC_so, notF_ap, notC_so, andF_ap, andC_t, andC_f, orF_ap, orC_t, orC_f, ifF_ap, ifFC_t, ifFC_f, blF_ap, blC_so, andV_ap, andVC_t, andVC_f, orV_ap, orVC_t, orVC_f, notV_ap, notVC_so, truO_ap, truC_bl, truC_int, truC_lst, truC_tup, truC_non, fnF_ap, fnC_rt, fnC_nx, par2_ap, parC_so, parC2_so, par3_ap, par3C_so, par3C2_so, par3C3_so, tgN_ap, tgT2_ap, tgT3_ap, appF_ap, appC0_so, stS_ap, stC_so, stC1_so, yesF_ap, List.set_cons_zero, List.set_cons_succ, List.getElem?_cons_zero, List.getElem?_cons_succ, Option.map_some, Bool.not_true, Bool.not_false, Bool.false_eq_true, if_true, if_false, reduceCtorEq, addD_int, subD_int, ltD_int, leD_int, gtD_int, geD_int, min2D_int, max2D_int, negD_int, intD_int, intD_bl, eqD_int, neD_int, eqD_bl, neD_bl, lenD_lst, lenD_tup, listD_lst, listD_tup, tupleD_lst, tupleD_tup, lstD_0, lstD_1, lstD_2, lstD_3, tupD_0, tupD_1, tupD_2, tupD_3, slRD_lst, slRD_tup, isiT3, isND, beq_self_eq_true, e]
theorem D.okx_tup_inv {n : Nat} {xs : List D} (h : D.okx (n + 1) (.tup xs) = true) : xs.length ≤ sizeLine ∧ ∀ x ∈ xs, D.okx n x = true := by
  simp only [D.okx, Bool.and_eq_true, List.all_eq_true, decide_eq_true_eq] at h
  exact h
theorem D.okx_lst_inv {n : Nat} {xs : List D} (h : D.okx (n + 1) (.lst xs) = true) : xs.length ≤ sizeLine ∧ ∀ x ∈ xs, D.okx n x = true := by
  simp only [D.okx, Bool.and_eq_true, List.all_eq_true, decide_eq_true_eq] at h
  exact h
theorem exact_refl (n : Nat) : ∀ (d : D), D.okx n d = true → F_ulaw_exact n [d, d] = some (.bl true, [d, d]) := by
  induction n with
  | zero => intro d h; simp [D.okx] at h
  | succ n ih =>
    intro d h
    unfold F_ulaw_exact
    have go : ∀ r, S_ulaw_exact (F_ulaw_exact n) [d, d, .und, .und] = some (.rt (.bl true) r) → fnF [] N_ulaw_exact.length (S_ulaw_exact (F_ulaw_exact n)) [d, d] = some (.bl true, [d, d]) := fun r hr => fn_of rfl hr
    cases d with
    | und => simp [D.okx] at h
    | dct => simp [D.okx] at h
    | non => exact go _ exact_non
    | bl b => exact go _ exact_bl
    | int b => exact go _ exact_int
    | str b => exact go _ exact_str
    | tup xs =>
      have h := D.okx_tup_inv h
      exact go _ (exact_tup h.1 fun x hx => ih x (h.2 x hx))
    | lst xs =>
      have h := D.okx_lst_inv h
      exact go _ (exact_lst h.1 fun x hx => ih x (h.2 x hx))
/-! ### draws -/
abbrev scr (ns : List Int) : D := .lst (ns.map .int)
abbrev St0 (k c : Int) : D := .lst [.int k, .int c]
theorem atI_in {ns : List Int} {i : Int} (h0 : 0 ≤ i) (h1 : i < ns.length) : ∃ v, L2.atI (ns.map D.int) i = some (.int v) := by
  have h2 : i.toNat < ns.length := by omega
  exact ⟨ns[i.toNat], atI_int h0 (by rw [List.getElem?_map, List.getElem?_eq_getElem h2]; rfl)⟩
theorem refill_ok (ns : List Int) (k : Int) : ∃ v, F_ulaw_refill [scr ns, .int k] = some (.int v, [scr ns, .int k]) := by
  have fin : ∀ v : Int, ∃ v' r, (seqS (ifS (tstF (opF ltD [odK 0 2, odE [] 0 (cF (.int 0))])) (seqS (setS 2 (opF subD [odE [] 0 (cF (.int 1)), odE [] 0 (opF mulD [odE [] 0 (cF (.int 2)), odK 0 2])])) (nilS)) (nilS)) (seqS (ifS (andF (tstF (opF geD [odK 0 2, odE [] 0 (opF powD [odE [] 0 (cF (.int 10)), odE [] 0 (cF (.int 18))])])) (tstF (opF ltD [odK 0 1, odE [] 0 (opF lenD [odK 0 0])]))) (seqS (retS (rd 2)) (nilS)) (nilS)) (seqS (retS (opF modD [odE [] 0 (opF intD [odE [] 1 (opF addD [odE [] 0 (opF mulD [odE [] 0 (opF intD [odE [] 1 (opF addD [odE [] 1 (opF addD [odE [] 0 (opF mulD [odK 0 2, odE [] 0 (cF (.int 48271))]), odE [] 0 (opF mulD [odK 0 1, odE [] 0 (cF (.int 69621))])]), odE [] 0 (cF (.int 12345))])]), odE [] 0 (cF (.int 40692))]), odE [] 0 (cF (.int 7))])]), odE [] 0 (cF (.int 2147483399))])) (nilS)))) [scr ns, .int k, .int v] = some (.rt (.int v') r) := by
    intro v
    have e1 : powD [.int 10, .int 18] = some (.int 1000000000000000000) := by decide +kernel
    have m1 : ∀ j, mulD [.int 2, .int j] = some (.int (2 * j)) := fun j => mulD_l (by decide)
    have m2 : ∀ j, mulD [.int j, .int 48271] = some (.int (j * 48271)) := fun j => mulD_r (by decide)
    have m3 : ∀ j, mulD [.int j, .int 69621] = some (.int (j * 69621)) := fun j => mulD_r (by decide)
    have m4 : ∀ j, mulD [.int j, .int 40692] = some (.int (j * 40692)) := fun j => mulD_r (by decide)
    have m5 : ∀ j, modD [.int j, .int 2147483399] = some (.int (j % 2147483399)) := fun j => modD_int (by decide)
    by_cases h1 : v < 0
    · by_cases h2 : (1000000000000000000 : Int) ≤ 1 - 2 * v
      · by_cases h3 : k < (ns.length : Int)
        · simp only [seqS_ap, contS_nx, contS_rt, contS_bk, contS_ct, nilS_ap, killS_ap, setS_ap, setC_so, dropS_ap, dropC_so, retS_ap, retC_so, retN_ap, bkS_ap, ctS_ap, ifS_ap, ifC_t, ifC_f, forS_ap, forC_so, asgS_ap, asgC_so, seqF_nil, seqF_cons, seqC_so, seqC2_so, odK_f, odK_al, odE_f, odE_al, opF_ap, opC_so, opC2_so, cF_ap, rd_ap, rdC_non, rdC_bl, rdC_int, rdC_str, rdC_tup, rdC_lst, rdC_dct, callF_ap, callC_so, callC2_so, wb_nil, wb_e, wb_k, tstF_ap, tstC_so, notF_ap, notC_so, andF_ap, andC_t, andC_f, orF_ap, orC_t, orC_f, ifF_ap, ifFC_t, ifFC_f, blF_ap, blC_so, andV_ap, andVC_t, andVC_f, orV_ap, orVC_t, orVC_f, notV_ap, notVC_so, truO_ap, truC_bl, truC_int, truC_lst, truC_tup, truC_non, fnF_ap, fnC_rt, fnC_nx, par2_ap, parC_so, parC2_so, par3_ap, par3C_so, par3C2_so, par3C3_so, tgN_ap, tgT2_ap, tgT3_ap, appF_ap, appC0_so, stS_ap, stC_so, stC1_so, yesF_ap, List.set_cons_zero, List.set_cons_succ, List.getElem?_cons_zero, List.getElem?_cons_succ, Option.map_some, Bool.not_true, Bool.not_false, Bool.false_eq_true, if_true, if_false, reduceCtorEq, addD_int, subD_int, ltD_int, leD_int, gtD_int, geD_int, min2D_int, max2D_int, negD_int, intD_int, intD_bl, eqD_int, neD_int, eqD_bl, neD_bl, lenD_lst, lenD_tup, listD_lst, listD_tup, tupleD_lst, tupleD_tup, lstD_0, lstD_1, lstD_2, lstD_3, tupD_0, tupD_1, tupD_2, tupD_3, slRD_lst, slRD_tup, e1, m1, m2, m3, m4, m5, h1, h2, h3, decide_true, decide_false, List.length_map]; exact ⟨_, _, rfl⟩
        · simp only [seqS_ap, contS_nx, contS_rt, contS_bk, contS_ct, nilS_ap, killS_ap, setS_ap, setC_so, dropS_ap, dropC_so, retS_ap, retC_so, retN_ap, bkS_ap, ctS_ap, ifS_ap, ifC_t, ifC_f, forS_ap, forC_so, asgS_ap, asgC_so, seqF_nil, seqF_cons, seqC_so, seqC2_so, odK_f, odK_al, odE_f, odE_al, opF_ap, opC_so, opC2_so, cF_ap, rd_ap, rdC_non, rdC_bl, rdC_int, rdC_str, rdC_tup, rdC_lst, rdC_dct, callF_ap, callC_so, callC2_so, wb_nil, wb_e, wb_k, tstF_ap, tstC_so, notF_ap, notC_so, andF_ap, andC_t, andC_f, orF_ap, orC_t, orC_f, ifF_ap, ifFC_t, ifFC_f, blF_ap, blC_so, andV_ap, andVC_t, andVC_f, orV_ap, orVC_t, orVC_f, notV_ap, notVC_so, truO_ap, truC_bl, truC_int, truC_lst, truC_tup, truC_non, fnF_ap, fnC_rt, fnC_nx, par2_ap, parC_so, parC2_so, par3_ap, par3C_so, par3C2_so, par3C3_so, tgN_ap, tgT2_ap, tgT3_ap, appF_ap, appC0_so, stS_ap, stC_so, stC1_so, yesF_ap, List.set_cons_zero, List.set_cons_succ, List.getElem?_cons_zero, List.getElem?_cons_succ, Option.map_some, Bool.not_true, Bool.not_false, Bool.false_eq_true, if_true, if_false, reduceCtorEq, addD_int, subD_int, ltD_int, leD_int, gtD_int, geD_int, min2D_int, max2D_int, negD_int, intD_int, intD_bl, eqD_int, neD_int, eqD_bl, neD_bl, lenD_lst, lenD_tup, listD_lst, listD_tup, tupleD_lst, tupleD_tup, lstD_0, lstD_1, lstD_2, lstD_3, tupD_0, tupD_1, tupD_2, tupD_3, slRD_lst, slRD_tup, e1, m1, m2, m3, m4, m5, h1, h2, h3, decide_true, decide_false, List.length_map]; exact ⟨_, _, rfl⟩
      · simp only [seqS_ap, contS_nx, contS_rt, contS_bk, contS_ct, nilS_ap, killS_ap, setS_ap, setC_so, dropS_ap, dropC_so, retS_ap, retC_so, retN_ap, bkS_ap, ctS_ap, ifS_ap, ifC_t, ifC_f, forS_ap, forC_so, asgS_ap, asgC_so, seqF_nil, seqF_cons, seqC_so, seqC2_so, odK_f, odK_al, odE_f, odE_al, opF_ap, opC_so, opC2_so, cF_ap, rd_ap, rdC_non, rdC_bl, rdC_int, rdC_str, rdC_tup, rdC_lst, rdC_dct, callF_ap, callC_so, callC2_so, wb_nil, wb_e, wb_k, tstF_ap, tstC_so, notF_ap, notC_so, andF_ap, andC_t, andC_f, orF_ap, orC_t, orC_f, ifF_ap, ifFC_t, ifFC_f, blF_ap, blC_so, andV_ap, andVC_t, andVC_f, orV_ap, orVC_t, orVC_f, notV_ap, notVC_so, truO_ap, truC_bl, truC_int, truC_lst, truC_tup, truC_non, fnF_ap, fnC_rt, fnC_nx, par2_ap, parC_so, parC2_so, par3_ap, par3C_so, par3C2_so, par3C3_so, tgN_ap, tgT2_ap, tgT3_ap, appF_ap, appC0_so, stS_ap, stC_so, stC1_so, yesF_ap, List.set_cons_zero, List.set_cons_succ, List.getElem?_cons_zero, List.getElem?_cons_succ, Option.map_some, Bool.not_true, Bool.not_false, Bool.false_eq_true, if_true, if_false, reduceCtorEq, addD_int, subD_int, ltD_int, leD_int, gtD_int, geD_int, min2D_int, max2D_int, negD_int, intD_int, intD_bl, eqD_int, neD_int, eqD_bl, neD_bl, lenD_lst, lenD_tup, listD_lst, listD_tup, tupleD_lst, tupleD_tup, lstD_0, lstD_1, lstD_2, lstD_3, tupD_0, tupD_1, tupD_2, tupD_3, slRD_lst, slRD_tup, e1, m1, m2, m3, m4, m5, h1, h2, decide_true, decide_false, List.length_map]; exact ⟨_, _, rfl⟩
    · by_cases h2 : (1000000000000000000 : Int) ≤ v
      · by_cases h3 : k < (ns.length : Int)
        · simp only [seqS_ap, contS_nx, contS_rt, contS_bk, contS_ct, nilS_ap, killS_ap, setS_ap, setC_so, dropS_ap, dropC_so, retS_ap, retC_so, retN_ap, bkS_ap, ctS_ap, ifS_ap, ifC_t, ifC_f, forS_ap, forC_so, asgS_ap, asgC_so, seqF_nil, seqF_cons, seqC_so, seqC2_so, odK_f, odK_al, odE_f, odE_al, opF_ap, opC_so, opC2_so, cF_ap, rd_ap, rdC_non, rdC_bl, rdC_int, rdC_str, rdC_tup, rdC_lst, rdC_dct, callF_ap, callC_so, callC2_so, wb_nil, wb_e, wb_k, tstF_ap, tstC_so, notF_ap, notC_so, andF_ap, andC_t, andC_f, orF_ap, orC_t, orC_f, ifF_ap, ifFC_t, ifFC_f, blF_ap, blC_so, andV_ap, andVC_t, andVC_f, orV_ap, orVC_t, orVC_f, notV_ap, notVC_so, truO_ap, truC_bl, truC_int, truC_lst, truC_tup, truC_non, fnF_ap, fnC_rt, fnC_nx, par2_ap, parC_so, parC2_so, par3_ap, par3C_so, par3C2_so, par3C3_so, tgN_ap, tgT2_ap, tgT3_ap, appF_ap, appC0_so, stS_ap, stC_so, stC1_so, yesF_ap, List.set_cons_zero, List.set_cons_succ, List.getElem?_cons_zero, List.getElem?_cons_succ, Option.map_some, Bool.not_true, Bool.not_false, Bool.false_eq_true, if_true, if_false, reduceCtorEq, addD_int, subD_int, ltD_int, leD_int, gtD_int, geD_int, min2D_int, max2D_int, negD_int, intD_int, intD_bl, eqD_int, neD_int, eqD_bl, neD_bl, lenD_lst, lenD_tup, listD_lst, listD_tup, tupleD_lst, tupleD_tup, lstD_0, lstD_1, lstD_2, lstD_3, tupD_0, tupD_1, tupD_2, tupD_3, slRD_lst, slRD_tup, e1, m1, m2, m3, m4, m5, h1, h2, h3, decide_true, decide_false, List.length_map]; exact ⟨_, _, rfl⟩
        · simp only [seqS_ap, contS_nx, contS_rt, contS_bk, contS_ct, nilS_ap, killS_ap, setS_ap, setC_so, dropS_ap, dropC_so, retS_ap, retC_so, retN_ap, bkS_ap, ctS_ap, ifS_ap, ifC_t, ifC_f, forS_ap, forC_so, asgS_ap, asgC_so, seqF_nil, seqF_cons, seqC_so, seqC2_so, odK_f, odK_al, odE_f, odE_al, opF_ap, opC_so, opC2_so, cF_ap, rd_ap, rdC_non, rdC_bl, rdC_int, rdC_str, rdC_tup, rdC_lst, rdC_dct, callF_ap, callC_so, callC2_so, wb_nil, wb_e, wb_k, tstF_ap, tstC_so, notF_ap, notC_so, andF_ap, andC_t, andC_f, orF_ap, orC_t, orC_f, ifF_ap, ifFC_t, ifFC_f, blF_ap, blC_so, andV_ap, andVC_t, andVC_f, orV_ap, orVC_t, orVC_f, notV_ap, notVC_so, truO_ap, truC_bl, truC_int, truC_lst, truC_tup, truC_non, fnF_ap, fnC_rt, fnC_nx, par2_ap, parC_so, parC2_so, par3_ap, par3C_so, par3C2_so, par3C3_so, tgN_ap, tgT2_ap, tgT3_ap, appF_ap, appC0_so, stS_ap, stC_so, stC1_so, yesF_ap, List.set_cons_zero, List.set_cons_succ, List.getElem?_cons_zero, List.getElem?_cons_succ, Option.map_some, Bool.not_true, Bool.not_false, Bool.false_eq_true, if_true, if_false, reduceCtorEq, addD_int, subD_int, ltD_int, leD_int, gtD_int, geD_int, min2D_int, max2D_int, negD_int, intD_int, intD_bl, eqD_int, neD_int, eqD_bl, neD_bl, lenD_lst, lenD_tup, listD_lst, listD_tup, tupleD_lst, tupleD_tup, lstD_0, lstD_1, lstD_2, lstD_3, tupD_0, tupD_1, tupD_2, tupD_3, slRD_lst, slRD_tup, e1, m1, m2, m3, m4, m5, h1, h2, h3, decide_true, decide_false, List.length_map]; exact ⟨_, _, rfl⟩
      · simp only [seqS_ap, contS_nx, contS_rt, contS_bk, contS_ct, nilS_ap, killS_ap, setS_ap, setC_so, dropS_ap, dropC_so, retS_ap, retC_so, retN_ap, bkS_ap, ctS_ap, ifS_ap, ifC_t, ifC_f, forS_ap, forC_so, asgS_ap, asgC_so, seqF_nil, seqF_cons, seqC_so, seqC2_so, odK_f, odK_al, odE_f, odE_al, opF_ap, opC_so, opC2_so, cF_ap, rd_ap, rdC_non, rdC_bl, rdC_int, rdC_str, rdC_tup, rdC_lst, rdC_dct, callF_ap, callC_so, callC2_so, wb_nil, wb_e, wb_k, tstF_ap, tstC_so, notF_ap, notC_so, andF_ap, andC_t, andC_f, orF_ap, orC_t, orC_f, ifF_ap, ifFC_t, ifFC_f, blF_ap, blC_so, andV_ap, andVC_t, andVC_f, orV_ap, orVC_t, orVC_f, notV_ap, notVC_so, truO_ap, truC_bl, truC_int, truC_lst, truC_tup, truC_non, fnF_ap, fnC_rt, fnC_nx, par2_ap, parC_so, parC2_so, par3_ap, par3C_so, par3C2_so, par3C3_so, tgN_ap, tgT2_ap, tgT3_ap, appF_ap, appC0_so, stS_ap, stC_so, stC1_so, yesF_ap, List.set_cons_zero, List.set_cons_succ, List.getElem?_cons_zero, List.getElem?_cons_succ, Option.map_some, Bool.not_true, Bool.not_false, Bool.false_eq_true, if_true, if_false, reduceCtorEq, addD_int, subD_int, ltD_int, leD_int, gtD_int, geD_int, min2D_int, max2D_int, negD_int, intD_int, intD_bl, eqD_int, neD_int, eqD_bl, neD_bl, lenD_lst, lenD_tup, listD_lst, listD_tup, tupleD_lst, tupleD_tup, lstD_0, lstD_1, lstD_2, lstD_3, tupD_0, tupD_1, tupD_2, tupD_3, slRD_lst, slRD_tup, e1, m1, m2, m3, m4, m5, h1, h2, decide_true, decide_false, List.length_map]; exact ⟨_, _, rfl⟩
  cases ns with
  | nil =>
    obtain ⟨v', r, e⟩ := fin 0
    refine ⟨v', fn_of (ρ0 := [scr [], .int k, .und]) (r := r) rfl ?_⟩
    rw [← e]
    unfold S_ulaw_refill
    rw [seqS_ap, setS_ap, cF_ap, setC_so, contS_nx, seqS_ap, ifS_ap]
    simp only [seqS_ap, contS_nx, contS_rt, contS_bk, contS_ct, nilS_ap, killS_ap, setS_ap, setC_so, dropS_ap, dropC_so, retS_ap, retC_so, retN_ap, bkS_ap, ctS_ap, ifS_ap, ifC_t, ifC_f, forS_ap, forC_so, asgS_ap, asgC_so, seqF_nil, seqF_cons, seqC_so, seqC2_so, odK_f, odK_al, odE_f, odE_al, opF_ap, opC_so, opC2_so, cF_ap, rd_ap, rdC_non, rdC_bl, rdC_int, rdC_str, rdC_tup, rdC_lst, rdC_dct, callF_ap, callC_so, callC2_so, wb_nil, wb_e, wb_k, tstF_ap, tstC_so, notF_ap, notC_so, andF_ap, andC_t, andC_f, orF_ap, orC_t, orC_f, ifF_ap, ifFC_t, ifFC_f, blF_ap, blC_so, andV_ap, andVC_t, andVC_f, orV_ap, orVC_t, orVC_f, notV_ap, notVC_so, truO_ap, truC_bl, truC_int, truC_lst, truC_tup, truC_non, fnF_ap, fnC_rt, fnC_nx, par2_ap, parC_so, parC2_so, par3_ap, par3C_so, par3C2_so, par3C3_so, tgN_ap, tgT2_ap, tgT3_ap, appF_ap, appC0_so, stS_ap, stC_so, stC1_so, yesF_ap, List.set_cons_zero, List.set_cons_succ, List.getElem?_cons_zero, List.getElem?_cons_succ, Option.map_some, Bool.not_true, Bool.not_false, Bool.false_eq_true, if_true, if_false, reduceCtorEq, addD_int, subD_int, ltD_int, leD_int, gtD_int, geD_int, min2D_int, max2D_int, negD_int, intD_int, intD_bl, eqD_int, neD_int, eqD_bl, neD_bl, lenD_lst, lenD_tup, listD_lst, listD_tup, tupleD_lst, tupleD_tup, lstD_0, lstD_1, lstD_2, lstD_3, tupD_0, tupD_1, tupD_2, tupD_3, slRD_lst, slRD_tup, List.map_nil, List.isEmpty_nil]
  | cons n ns =>
    have hp : (0 : Int) < (n :: ns).length := by simp only [List.length_cons]; omega
    obtain ⟨v, hv⟩ := atI_in (ns := n :: ns) (i := k % (n :: ns).length) (Int.emod_nonneg _ (by omega)) (Int.emod_lt_of_pos _ hp)
    obtain ⟨v', r, e⟩ := fin v
    refine ⟨v', fn_of (ρ0 := [scr (n :: ns), .int k, .und]) (r := r) rfl ?_⟩
    rw [← e]
    unfold S_ulaw_refill
    have hx : ixD [.lst ((n :: ns).map D.int), .int (k % (n :: ns).length)] = some (.int v) := hv
    have hm : modD [.int k, .int ((n :: ns).length : Int)] = some (.int (k % (n :: ns).length)) := modD_int hp
    have ht : truC (some ([scr (n :: ns)], [scr (n :: ns), .int k, .int 0])) = some (true, [scr (n :: ns), .int k, .int 0]) := rfl
    have hl : lenD [scr (n :: ns)] = some (.int ((n :: ns).length : Int)) := by show some (D.int (((n :: ns).map D.int).length : Int)) = _; rw [List.length_map]
    rw [seqS_ap, setS_ap, cF_ap, setC_so, contS_nx, seqS_ap, ifS_ap, truO_ap, seqF_cons, odK_f, rd_ap]
    show contS (ifC (truC (seqC (rdC (some (scr (n :: ns))) [scr (n :: ns), .int k, .int 0]) [])) _ _) _ = _
    rw [rdC_lst, seqC_so, seqF_nil, seqC2_so, ht, ifC_t, seqS_ap, setS_ap]
    have h2 : opF ixD [odK 0 0, odE [] 0 (opF modD [odK 0 1, odE [] 0 (opF lenD [odK 0 0])])] [scr (n :: ns), .int k, .int 0] = some (.int v, [scr (n :: ns), .int k, .int 0]) := by
      simp only [opF_ap, seqF_cons, seqF_nil, odK_f, odE_f, rd_ap, List.getElem?_cons_zero, List.getElem?_cons_succ, rdC_lst, rdC_int, seqC_so, seqC2_so, opC_so, hl, opC2_so, hm, hx]
    rw [h2]
    rfl
theorem draw_ok (ns : List Int) (k c m : Int) (hm : 0 < m) (hs : m < 1073741824) : ∃ v k' c', 0 ≤ v ∧ v < m ∧ F_ulaw_draw [St0 k c, scr ns, .int m] = some (.int v, [St0 k' c', scr ns, .int m]) := by
  obtain ⟨v, hv⟩ := refill_ok ns k
  have x0 : ∀ a b, ixD [.lst [.int a, .int b], .int 0] = some (.int a) := fun _ _ => rfl
  have x1 : ∀ a b, ixD [.lst [.int a, .int b], .int 1] = some (.int b) := fun _ _ => rfl
  have s0 : ∀ (w a b : D) ρ, stC2 0 w [a, b] (some (.int 0, ρ)) = some (.nx (ρ.set 0 (.lst [w, b]))) := fun _ _ _ _ => rfl
  have s1 : ∀ (w a b : D) ρ, stC2 0 w [a, b] (some (.int 1, ρ)) = some (.nx (ρ.set 0 (.lst [a, w]))) := fun _ _ _ _ => rfl
  have hd : ∀ j, fdivD [.int j, .int m] = some (.int (j / m)) := fun j => fdivD_int hm hs
  have he : ∀ j, modD [.int j, .int m] = some (.int (j % m)) := fun j => modD_int hm
  by_cases hc : c = 0
  · refine ⟨v % m, k + 1, v / m, Int.emod_nonneg _ (by omega), Int.emod_lt_of_pos _ hm, fn_ofr (ρ0 := [St0 k c, scr ns, .int m, .und]) (r := [St0 (k + 1) (v / m), scr ns, .int m, .int (v % m)]) rfl ?_ rfl⟩
    unfold S_ulaw_draw
    simp only [seqS_ap, contS_nx, contS_rt, contS_bk, contS_ct, nilS_ap, killS_ap, setS_ap, setC_so, dropS_ap, dropC_so, retS_ap, retC_so, retN_ap, bkS_ap, ctS_ap, ifS_ap, ifC_t, ifC_f, forS_ap, forC_so, asgS_ap, asgC_so, seqF_nil, seqF_cons, seqC_so, seqC2_so, odK_f, odK_al, odE_f, odE_al, opF_ap, opC_so, opC2_so, cF_ap, rd_ap, rdC_non, rdC_bl, rdC_int, rdC_str, rdC_tup, rdC_lst, rdC_dct, callF_ap, callC_so, callC2_so, wb_nil, wb_e, wb_k, tstF_ap, tstC_so, notF_ap, notC_so, andF_ap, andC_t, andC_f, orF_ap, orC_t, orC_f, ifF_ap, ifFC_t, ifFC_f, blF_ap, blC_so, andV_ap, andVC_t, andVC_f, orV_ap, orVC_t, orVC_f, notV_ap, notVC_so, truO_ap, truC_bl, truC_int, truC_lst, truC_tup, truC_non, fnF_ap, fnC_rt, fnC_nx, par2_ap, parC_so, parC2_so, par3_ap, par3C_so, par3C2_so, par3C3_so, tgN_ap, tgT2_ap, tgT3_ap, appF_ap, appC0_so, stS_ap, stC_so, stC1_so, yesF_ap, List.set_cons_zero, List.set_cons_succ, List.getElem?_cons_zero, List.getElem?_cons_succ, Option.map_some, Bool.not_true, Bool.not_false, Bool.false_eq_true, if_true, if_false, reduceCtorEq, addD_int, subD_int, ltD_int, leD_int, gtD_int, geD_int, min2D_int, max2D_int, negD_int, intD_int, intD_bl, eqD_int, neD_int, eqD_bl, neD_bl, lenD_lst, lenD_tup, listD_lst, listD_tup, tupleD_lst, tupleD_tup, lstD_0, lstD_1, lstD_2, lstD_3, tupD_0, tupD_1, tupD_2, tupD_3, slRD_lst, slRD_tup, x0, x1, s0, s1, hd, he, hc, hv, decide_true]
  · refine ⟨c % m, k, c / m, Int.emod_nonneg _ (by omega), Int.emod_lt_of_pos _ hm, fn_ofr (ρ0 := [St0 k c, scr ns, .int m, .und]) (r := [St0 k (c / m), scr ns, .int m, .int (c % m)]) rfl ?_ rfl⟩
    unfold S_ulaw_draw
    simp only [seqS_ap, contS_nx, contS_rt, contS_bk, contS_ct, nilS_ap, killS_ap, setS_ap, setC_so, dropS_ap, dropC_so, retS_ap, retC_so, retN_ap, bkS_ap, ctS_ap, ifS_ap, ifC_t, ifC_f, forS_ap, forC_so, asgS_ap, asgC_so, seqF_nil, seqF_cons, seqC_so, seqC2_so, odK_f, odK_al, odE_f, odE_al, opF_ap, opC_so, opC2_so, cF_ap, rd_ap, rdC_non, rdC_bl, rdC_int, rdC_str, rdC_tup, rdC_lst, rdC_dct, callF_ap, callC_so, callC2_so, wb_nil, wb_e, wb_k, tstF_ap, tstC_so, notF_ap, notC_so, andF_ap, andC_t, andC_f, orF_ap, orC_t, orC_f, ifF_ap, ifFC_t, ifFC_f, blF_ap, blC_so, andV_ap, andVC_t, andVC_f, orV_ap, orVC_t, orVC_f, notV_ap, notVC_so, truO_ap, truC_bl, truC_int, truC_lst, truC_tup, truC_non, fnF_ap, fnC_rt, fnC_nx, par2_ap, parC_so, parC2_so, par3_ap, par3C_so, par3C2_so, par3C3_so, tgN_ap, tgT2_ap, tgT3_ap, appF_ap, appC0_so, stS_ap, stC_so, stC1_so, yesF_ap, List.set_cons_zero, List.set_cons_succ, List.getElem?_cons_zero, List.getElem?_cons_succ, Option.map_some, Bool.not_true, Bool.not_false, Bool.false_eq_true, if_true, if_false, reduceCtorEq, addD_int, subD_int, ltD_int, leD_int, gtD_int, geD_int, min2D_int, max2D_int, negD_int, intD_int, intD_bl, eqD_int, neD_int, eqD_bl, neD_bl, lenD_lst, lenD_tup, listD_lst, listD_tup, tupleD_lst, tupleD_tup, lstD_0, lstD_1, lstD_2, lstD_3, tupD_0, tupD_1, tupD_2, tupD_3, slRD_lst, slRD_tup, x0, x1, s0, s1, hd, he, hc, decide_false]
theorem drawN (ns : List Int) (k c : Int) (m : Nat) (hm : 0 < m) (hs : m < 1073741824) : ∃ (v : Nat) (k' c' : Int), v < m ∧ F_ulaw_draw [St0 k c, scr ns, .int (m : Nat)] = some (.int (v : Nat), [St0 k' c', scr ns, .int (m : Nat)]) := by
  obtain ⟨v, k', c', h0, h1, e⟩ := draw_ok ns k c m (by omega) (by omega)
  refine ⟨v.toNat, k', c', by omega, ?_⟩
  rw [e, Int.toNat_of_nonneg h0]
end VS

set_option Elab.async false
set_option linter.all false
set_option maxRecDepth 100000
set_option maxHeartbeats 4000000
/-! Plane partitions: tables of numbers. -/
namespace VS
open PySem PySem.Spec PyProof.Rows L2
/-! ### lists -/
theorem rget {α : Type} {f : Nat → α} {n i : Nat} (h : i < n) : ((List.range n).map f)[i]? = some (f i) := by
  rw [List.getElem?_map, List.getElem?_range h]; rfl
theorem rset {α : Type} {f : Nat → α} {n x : Nat} {v : α} (h : x < n) : ((List.range n).map f).set x v = (List.range n).map fun i => if i = x then v else f i := by
  refine List.ext_getElem (by simp) fun i h1 h2 => ?_
  simp only [List.length_map, List.length_range] at h2
  rw [List.getElem_set]
  simp only [List.getElem_map, List.getElem_range]
  by_cases e : x = i
  · rw [if_pos e, if_pos e.symm]
  · rw [if_neg e, if_neg (Ne.symm e)]
theorem rrev {α : Type} {f : Nat → α} {n : Nat} : ((List.range n).map f).reverse = (List.range n).map fun i => f (n - 1 - i) := by
  refine List.ext_getElem (by simp) fun i h1 h2 => ?_
  simp only [List.getElem_reverse, List.getElem_map, List.getElem_range, List.length_map, List.length_range]
theorem rcongr {α : Type} {f g : Nat → α} {n : Nat} (h : ∀ i, i < n → f i = g i) : (List.range n).map f = (List.range n).map g := List.map_congr_left fun i hi => h i (List.mem_range.mp hi)
theorem enum_range (f : Nat → D) (n : Nat) : enumD 0 ((List.range n).map f) = (List.range n).map fun i => .tup [eN i, f i] := by
  rw [enumD_map]
  refine List.ext_getElem (by simp) fun i h1 h2 => ?_
  simp [eN]
theorem range_split {n x : Nat} {pre post : List Nat} (h : List.range n = pre ++ x :: post) : x = pre.length ∧ x < n := by
  have h1 : (List.range n)[pre.length]? = some x := by rw [h]; simp
  obtain ⟨hl, h2⟩ := List.getElem?_eq_some_iff.mp h1
  rw [List.length_range] at hl
  rw [List.getElem_range] at h2
  omega
theorem foldl_app {α β : Type} (g : α → List β) : ∀ (xs : List α) (acc : List β), xs.foldl (fun acc x => acc ++ g x) acc = acc ++ xs.flatMap g
  | [], acc => by simp
  | x :: xs, acc => by rw [List.foldl_cons, foldl_app g xs, List.flatMap_cons, List.append_assoc]
theorem sortL_id {α : Type} {le : α → α → Bool} : ∀ {xs : List α}, xs.Pairwise (fun a b => le a b = true) → sortL le xs = xs
  | [], _ => rfl
  | x :: xs, h => by
    show insL le x (sortL le xs) = _
    rw [sortL_id (List.pairwise_cons.mp h).2]
    cases xs with
    | nil => rfl
    | cons y ys =>
      show (if le x y then _ else _) = _
      rw [if_pos ((List.pairwise_cons.mp h).1 y List.mem_cons_self)]
/-! ### tables as data -/
def dT (a b : Nat) (h : Nat → Nat → Nat) : D := .tup ((List.range a).map fun i => .tup ((List.range b).map fun j => eN (h i j)))
theorem dT_congr {a b : Nat} {f g : Nat → Nat → Nat} (h : ∀ i j, i < a → j < b → f i j = g i j) : dT a b f = dT a b g := by
  unfold dT
  rw [rcongr fun i hi => congrArg D.tup (rcongr fun j hj => congrArg eN (h i j hi hj))]
theorem dT_ne (a b : Nat) (h : Nat → Nat → Nat) : dT a b h ≠ .und := fun e => by cases e
theorem dT_rd (a b : Nat) (h : Nat → Nat → Nat) (ρ : List D) : rdC (some (dT a b h)) ρ = some (dT a b h, ρ) := rdC_ne (dT_ne a b h) ρ
theorem dT_okx {a b : Nat} {h : Nat → Nat → Nat} (ha : a ≤ sizeLine) (hb : b ≤ sizeLine) (n : Nat) : D.okx (n + 3) (dT a b h) = true := by
  unfold dT
  have e : ∀ i, D.okx (n + 1) (eN i) = true := fun i => rfl
  have r : ∀ i, D.okx (n + 2) (.tup ((List.range b).map fun j => eN (h i j))) = true := fun i => by
    show (decide (((List.range b).map fun j => eN (h i j)).length ≤ sizeLine) && ((List.range b).map fun j => eN (h i j)).all (D.okx (n + 1))) = true
    rw [Bool.and_eq_true, List.all_eq_true, decide_eq_true_eq]
    refine ⟨by simpa using hb, fun x hx => ?_⟩
    obtain ⟨j, _, rfl⟩ := List.mem_map.mp hx
    exact e _
  show (decide (((List.range a).map fun i => D.tup ((List.range b).map fun j => eN (h i j))).length ≤ sizeLine) && ((List.range a).map fun i => D.tup ((List.range b).map fun j => eN (h i j))).all (D.okx (n + 2))) = true
  rw [Bool.and_eq_true, List.all_eq_true, decide_eq_true_eq]
  refine ⟨by simpa using ha, fun x hx => ?_⟩
  obtain ⟨i, _, rfl⟩ := List.mem_map.mp hx
  exact r i
/-- a cell's three numbers -/
abbrev N3 := Nat × Nat × Nat
def e3 (t : N3) : D := .tup [eN t.1, eN t.2.1, eN t.2.2]
def lt3 (p q : N3) : Bool := if p.1 = q.1 then (if p.2.1 = q.2.1 then decide (p.2.2 < q.2.2) else decide (p.2.1 < q.2.1)) else decide (p.1 < q.1)
theorem eqv_eN (m n : Nat) : D.eqv (eN m) (eN n) = decide (m = n) := by
  unfold eN D.eqv
  exact decide_eq_decide.mpr (by omega)
theorem lt_eN (m n : Nat) : D.lt (eN m) (eN n) = decide (m < n) := by
  unfold eN D.lt
  exact decide_eq_decide.mpr (by omega)
theorem lt_e3 (p q : N3) : D.lt (e3 p) (e3 q) = lt3 p q := by
  unfold e3 lt3
  simp only [D.lt, D.ltL, eqv_eN, lt_eN, decide_eq_true_eq]
  by_cases h1 : p.1 = q.1
  · rw [if_pos h1, if_pos h1]
    by_cases h2 : p.2.1 = q.2.1
    · rw [if_pos h2, if_pos h2]
      by_cases h3 : p.2.2 = q.2.2
      · rw [if_pos h3]; simp [h3]
      · rw [if_neg h3]
    · rw [if_neg h2, if_neg h2]
  · rw [if_neg h1, if_neg h1]
theorem srtOk_e3 {L : List N3} (hl : L.length ≤ sizeLine) : srtOk (L.map e3) = true := by
  unfold srtOk alkAll
  have h1 : (L.map e3).all (D.fit 30) = true := List.all_eq_true.mpr fun x hx => by
    obtain ⟨t, _, rfl⟩ := List.mem_map.mp hx; rfl
  have h2 : (L.map e3).all (unI 1) = true := List.all_eq_true.mpr fun x hx => by
    obtain ⟨t, _, rfl⟩ := List.mem_map.mp hx; rfl
  have h3 : (L.map e3).all neT = true := List.all_eq_true.mpr fun x hx => by
    obtain ⟨t, _, rfl⟩ := List.mem_map.mp hx; rfl
  rw [h1, h2, h3, List.length_map, decide_eq_true hl]
  simp
/-- sorted of triples: the same in some order -/
theorem sorted_e3 {L : List N3} (hl : L.length ≤ sizeLine) : ∃ L' : List N3, L'.Perm L ∧ sortedD false [.lst (L.map e3)] = some (.lst (L'.map e3)) := by
  have hm : ∀ xs : List N3, sortL (D.le false) (xs.map e3) = (sortL (fun a b => !lt3 b a) xs).map e3 := by
    have hi : ∀ (x : N3) (ys : List N3), insL (D.le false) (e3 x) (ys.map e3) = (insL (fun a b => !lt3 b a) x ys).map e3 := by
      intro x ys
      induction ys with
      | nil => rfl
      | cons y ys ih =>
        show (if D.le false (e3 x) (e3 y) then _ else _) = ((if (!lt3 y x) = true then _ else _ : List N3)).map e3
        have e : D.le false (e3 x) (e3 y) = !lt3 y x := by show (!D.lt (e3 y) (e3 x)) = _; rw [lt_e3]
        rw [e]
        by_cases h : (!lt3 y x) = true
        · rw [if_pos h, if_pos h]; rfl
        · rw [if_neg h, if_neg h, List.map_cons, ← ih]
    intro xs
    induction xs with
    | nil => rfl
    | cons x xs ih => show insL _ (e3 x) (sortL _ (xs.map e3)) = _; rw [ih, hi]; rfl
  match L, hl with
  | [], _ => exact ⟨[], .refl _, rfl⟩
  | [x], _ => exact ⟨[x], .refl _, rfl⟩
  | x :: y :: L, hl =>
    refine ⟨sortL (fun a b => !lt3 b a) (x :: y :: L), sortL_perm _, ?_⟩
    show (if srtOk ((x :: y :: L).map e3) = true then some (sortL (D.le false) ((x :: y :: L).map e3)) else none).map D.lst = _
    rw [if_pos (srtOk_e3 hl), hm, Option.map_some]
/-- sorted of triples that are sorted -/
theorem sorted_e3_id {L : List N3} (hl : L.length ≤ sizeLine) (hs : L.Pairwise fun a b => lt3 b a = false) : sortedD false [.lst (L.map e3)] = some (.lst (L.map e3)) := by
  match L, hl, hs with
  | [], _, _ => rfl
  | [x], _, _ => rfl
  | x :: y :: L, hl, hs =>
    show (if srtOk ((x :: y :: L).map e3) = true then some (sortL (D.le false) ((x :: y :: L).map e3)) else none).map D.lst = _
    rw [if_pos (srtOk_e3 hl), sortL_id]
    · rw [Option.map_some]
    · refine List.pairwise_map.mpr (hs.imp fun {a b} h => ?_)
      show (!D.lt (e3 b) (e3 a)) = true
      rw [lt_e3, h]; rfl
/-! ### cubes -/
def cubL (a b : Nat) (h : Nat → Nat → Nat) : List N3 := (List.range a).flatMap fun x => (List.range b).flatMap fun y => (List.range (h x y)).map fun z => (x, y, z)
theorem mem_cubL {a b : Nat} {h : Nat → Nat → Nat} {t : N3} : t ∈ cubL a b h ↔ t.1 < a ∧ t.2.1 < b ∧ t.2.2 < h t.1 t.2.1 := by
  obtain ⟨x, y, z⟩ := t
  unfold cubL
  simp only [List.mem_flatMap, List.mem_range, List.mem_map, Prod.mk.injEq]
  constructor
  · rintro ⟨x', hx, y', hy, z', hz, rfl, rfl, rfl⟩; exact ⟨hx, hy, hz⟩
  · rintro ⟨hx, hy, hz⟩; exact ⟨x, hx, y, hy, z, hz, rfl, rfl, rfl⟩
theorem pw_flatMap {α β : Type} {R : α → α → Prop} {S : β → β → Prop} {g : α → List β} : ∀ {xs : List α}, xs.Pairwise R → (∀ x ∈ xs, (g x).Pairwise S) → (∀ x y u v, R x y → u ∈ g x → v ∈ g y → S u v) → (xs.flatMap g).Pairwise S
  | [], _, _, _ => by simp
  | x :: xs, h, h1, h2 => by
    rw [List.flatMap_cons, List.pairwise_append]
    refine ⟨h1 x List.mem_cons_self, pw_flatMap (List.pairwise_cons.mp h).2 (fun y hy => h1 y (List.mem_cons_of_mem _ hy)) h2, fun u hu v hv => ?_⟩
    obtain ⟨y, hy, hv⟩ := List.mem_flatMap.mp hv
    exact h2 x y u v ((List.pairwise_cons.mp h).1 y hy) hu hv
theorem cubL_sorted (a b : Nat) (h : Nat → Nat → Nat) : (cubL a b h).Pairwise fun p q => lt3 q p = false := by
  unfold cubL
  refine pw_flatMap (R := (· < ·)) List.pairwise_lt_range (fun x _ => pw_flatMap (R := (· < ·)) List.pairwise_lt_range (fun y _ => ?_) ?_) ?_
  · refine List.pairwise_map.mpr (List.pairwise_lt_range.imp fun {p q} hpq => ?_)
    simp [lt3]; omega
  · intro y y' u v hyy hu hv
    obtain ⟨z, _, rfl⟩ := List.mem_map.mp hu
    obtain ⟨z', _, rfl⟩ := List.mem_map.mp hv
    have : ¬ y' = y := by omega
    simp [lt3, this]; omega
  · intro x x' u v hxx hu hv
    obtain ⟨y, _, hu⟩ := List.mem_flatMap.mp hu
    obtain ⟨y', _, hv⟩ := List.mem_flatMap.mp hv
    obtain ⟨z, _, rfl⟩ := List.mem_map.mp hu
    obtain ⟨z', _, rfl⟩ := List.mem_map.mp hv
    have : ¬ x' = x := by omega
    simp [lt3, this]; omega
theorem len_flatMap_le {α β : Type} {g : α → List β} {c : Nat} : ∀ {xs : List α}, (∀ x ∈ xs, (g x).length ≤ c) → (xs.flatMap g).length ≤ xs.length * c
  | [], _ => by simp
  | x :: xs, h => by
    rw [List.flatMap_cons, List.length_append, List.length_cons, Nat.succ_mul]
    have := len_flatMap_le (g := g) (c := c) (xs := xs) fun y hy => h y (List.mem_cons_of_mem _ hy)
    have := h x List.mem_cons_self
    omega
theorem cubL_len {a b c : Nat} {h : Nat → Nat → Nat} (hc : ∀ i j, i < a → j < b → h i j ≤ c) : (cubL a b h).length ≤ a * (b * c) := by
  unfold cubL
  have := len_flatMap_le (g := fun x => (List.range b).flatMap fun y => (List.range (h x y)).map fun z => (x, y, z)) (c := b * c) (xs := List.range a) fun x hx => by
    have := len_flatMap_le (g := fun y => (List.range (h x y)).map fun z => (x, y, z)) (c := c) (xs := List.range b) fun y hy => by
      rw [List.length_map, List.length_range]; exact hc x y (List.mem_range.mp hx) (List.mem_range.mp hy)
    rwa [List.length_range] at this
  rwa [List.length_range] at this
theorem flatMap_pre_len {α β : Type} {g : α → List β} {pre post : List α} : (pre.flatMap g).length ≤ ((pre ++ post).flatMap g).length := by
  rw [List.flatMap_append, List.length_append]; omega
/-- lists that grow in a loop -/
theorem loop_app {α β : Type} {e : α → D} {q : β → D} {m : Tgt} {s : SemS} (st : D → List D) (g : α → List β) (all : List α) (acc0 : List β)
    (h : ∀ pre x post, all = pre ++ x :: post → turn m s (e x) (st (.lst ((acc0 ++ pre.flatMap g).map q))) = some (.nx (st (.lst ((acc0 ++ pre.flatMap g ++ g x).map q))))) :
    loopS m s (all.map e) (st (.lst (acc0.map q))) = some (.nx (st (.lst ((acc0 ++ all.flatMap g).map q)))) := by
  have := loop_inv (e := e) (m := m) (s := s) (fun acc : List β => st (.lst (acc.map q))) (fun acc x => acc ++ g x) (fun pre acc => acc = acc0 ++ pre.flatMap g) all
    (fun pre x post a hp hi => ⟨by rw [hi]; exact h pre x post hp, by rw [hi, List.flatMap_append, List.append_assoc]; simp⟩) [] all acc0 rfl (by simp)
  rw [foldl_app] at this
  exact this.1
theorem cubes_c1_ok {a b n : Nat} {h : Nat → Nat → Nat} {d1 d2 d3 d4 : D} (h2 : d2 ≠ .und) (h4 : d4 ≠ .und) (r0 : D) (hn : n ≤ 1000000) : cubes_c1 [r0, d1, d2, d3, d4, eN n, .und] = some (.lst ((List.range n).map fun z => .tup [d2, d4, eN z]), [r0, d1, d2, d3, d4, eN n, .und]) := by
  have q2 := rdC_ne h2
  have q4 := rdC_ne h4
  refine lc_map (e := eN) (fun z => [r0, d1, d2, d3, d4, eN n, eN z]) (fun z => .tup [d2, d4, eN z]) (rng1_of (by simp only [seqS_ap, contS_nx, contS_rt, contS_bk, contS_ct, nilS_ap, killS_ap, setS_ap, setC_so, dropS_ap, dropC_so, retS_ap, retC_so, retN_ap, bkS_ap, ctS_ap, ifS_ap, ifC_t, ifC_f, forS_ap, forC_so, asgS_ap, asgC_so, seqF_nil, seqF_cons, seqC_so, seqC2_so, odK_f, odK_al, odE_f, odE_al, opF_ap, opC_so, opC2_so, cF_ap, rd_ap, rdC_non, rdC_bl, rdC_int, rdC_str, rdC_tup, rdC_lst, rdC_dct, callF_ap, callC_so, callC2_so, wb_nil, wb_e, wb_k, tstF_ap, tstC_so, notF_ap, notC_so, andF_ap, andC_t, andC_f, orF_ap, orC_t, orC_f, ifF_ap, ifFC_t, ifFC_f, blF_ap, blC_so, andV_ap, andVC_t, andVC_f, orV_ap, orVC_t, orVC_f, notV_ap, notVC_so, truO_ap, truC_bl, truC_int, truC_lst, truC_tup, truC_non, fnF_ap, fnC_rt, fnC_nx, par2_ap, parC_so, parC2_so, par3_ap, par3C_so, par3C2_so, par3C3_so, tgN_ap, tgT2_ap, tgT3_ap, appF_ap, appC0_so, stS_ap, stC_so, stC1_so, yesF_ap, List.set_cons_zero, List.set_cons_succ, List.getElem?_cons_zero, List.getElem?_cons_succ, Option.map_some, Bool.not_true, Bool.not_false, Bool.false_eq_true, if_true, if_false, reduceCtorEq, addD_int, subD_int, ltD_int, leD_int, gtD_int, geD_int, min2D_int, max2D_int, negD_int, intD_int, intD_bl, eqD_int, neD_int, eqD_bl, neD_bl, lenD_lst, lenD_tup, listD_lst, listD_tup, tupleD_lst, tupleD_tup, lstD_0, lstD_1, lstD_2, lstD_3, tupD_0, tupD_1, tupD_2, tupD_3, slRD_lst, slRD_tup, eN]) (by omega)) (fun _ _ => rfl) (fun z hz => ?_) (fun _ _ => rfl) rfl (by rw [List.length_range, sizeLine_eq]; omega)
  simp only [seqS_ap, contS_nx, contS_rt, contS_bk, contS_ct, nilS_ap, killS_ap, setS_ap, setC_so, dropS_ap, dropC_so, retS_ap, retC_so, retN_ap, bkS_ap, ctS_ap, ifS_ap, ifC_t, ifC_f, forS_ap, forC_so, asgS_ap, asgC_so, seqF_nil, seqF_cons, seqC_so, seqC2_so, odK_f, odK_al, odE_f, odE_al, opF_ap, opC_so, opC2_so, cF_ap, rd_ap, rdC_non, rdC_bl, rdC_int, rdC_str, rdC_tup, rdC_lst, rdC_dct, callF_ap, callC_so, callC2_so, wb_nil, wb_e, wb_k, tstF_ap, tstC_so, notF_ap, notC_so, andF_ap, andC_t, andC_f, orF_ap, orC_t, orC_f, ifF_ap, ifFC_t, ifFC_f, blF_ap, blC_so, andV_ap, andVC_t, andVC_f, orV_ap, orVC_t, orVC_f, notV_ap, notVC_so, truO_ap, truC_bl, truC_int, truC_lst, truC_tup, truC_non, fnF_ap, fnC_rt, fnC_nx, par2_ap, parC_so, parC2_so, par3_ap, par3C_so, par3C2_so, par3C3_so, tgN_ap, tgT2_ap, tgT3_ap, appF_ap, appC0_so, stS_ap, stC_so, stC1_so, yesF_ap, List.set_cons_zero, List.set_cons_succ, List.getElem?_cons_zero, List.getElem?_cons_succ, Option.map_some, Bool.not_true, Bool.not_false, Bool.false_eq_true, if_true, if_false, reduceCtorEq, addD_int, subD_int, ltD_int, leD_int, gtD_int, geD_int, min2D_int, max2D_int, negD_int, intD_int, intD_bl, eqD_int, neD_int, eqD_bl, neD_bl, lenD_lst, lenD_tup, listD_lst, listD_tup, tupleD_lst, tupleD_tup, lstD_0, lstD_1, lstD_2, lstD_3, tupD_0, tupD_1, tupD_2, tupD_3, slRD_lst, slRD_tup, eN_rd, q2, q4]
theorem cubes_ok {a b c : Nat} {h : Nat → Nat → Nat} (hc : ∀ i j, i < a → j < b → h i j ≤ c) (hl : a * (b * c) ≤ 1000000) (hcc : c ≤ 1000000) : F_cubes [dT a b h] = some (.lst ((cubL a b h).map e3), [dT a b h]) := by
  have hlen := cubL_len hc
  have b1 : ∀ (acc : List N3) (x : Nat), x < a → acc.length + ((List.range b).flatMap fun y => (List.range (h x y)).map fun z => (x, y, z)).length ≤ 1000000 →
      loopS (tgT [tgN 4, tgN 5]) cubes_b1 ((List.range b).map fun y => .tup [eN y, eN (h x y)]) [dT a b h, .lst (acc.map e3), eN x, .tup ((List.range b).map fun j => eN (h x j)), .und, .und, .und] = some (.nx [dT a b h, .lst ((acc ++ (List.range b).flatMap fun y => (List.range (h x y)).map fun z => (x, y, z)).map e3), eN x, .tup ((List.range b).map fun j => eN (h x j)), .und, .und, .und]) := by
    intro acc x hx hac
    refine loop_app (q := e3) (fun l => [dT a b h, l, eN x, .tup ((List.range b).map fun j => eN (h x j)), .und, .und, .und]) (fun y => (List.range (h x y)).map fun z => (x, y, z)) (List.range b) acc (fun pre y post hp => ?_)
    have hy := (range_split hp).2
    have hle : (acc ++ pre.flatMap fun y => (List.range (h x y)).map fun z => (x, y, z)).length + h x y ≤ 1000000 := by
      have : (((pre ++ [y]).flatMap fun y => (List.range (h x y)).map fun z => (x, y, z))).length ≤ ((List.range b).flatMap fun y => (List.range (h x y)).map fun z => (x, y, z)).length := by
        rw [hp, show pre ++ y :: post = (pre ++ [y]) ++ post by simp]; exact flatMap_pre_len
      rw [List.flatMap_append, List.length_append] at this
      simp only [List.flatMap_cons, List.flatMap_nil, List.append_nil, List.length_map, List.length_range] at this
      rw [List.length_append]; omega
    generalize (acc ++ pre.flatMap fun y => (List.range (h x y)).map fun z => (x, y, z)) = L at hle ⊢
    rw [turn_T2]
    unfold cubes_b1
    have hz := cubes_c1_ok (a := a) (b := b) (h := h) (d1 := .lst (L.map e3)) (d2 := eN x) (d3 := .tup ((List.range b).map fun j => eN (h x j))) (d4 := eN y) (n := h x y) (fun z => by cases z) (fun z => by cases z) (dT a b h) (by omega)
    have ha : addD [.lst (L.map e3), .lst ((List.range (h x y)).map fun z => .tup [eN x, eN y, eN z])] = some (.lst ((L ++ (List.range (h x y)).map fun z => (x, y, z)).map e3)) := by
      rw [addD_lst (by rw [List.length_map, List.length_map, List.length_range, sizeLine_eq]; omega), List.map_append, List.map_map]; rfl
    simp only [seqS_ap, contS_nx, contS_rt, contS_bk, contS_ct, nilS_ap, killS_ap, setS_ap, setC_so, dropS_ap, dropC_so, retS_ap, retC_so, retN_ap, bkS_ap, ctS_ap, ifS_ap, ifC_t, ifC_f, forS_ap, forC_so, asgS_ap, asgC_so, seqF_nil, seqF_cons, seqC_so, seqC2_so, odK_f, odK_al, odE_f, odE_al, opF_ap, opC_so, opC2_so, cF_ap, rd_ap, rdC_non, rdC_bl, rdC_int, rdC_str, rdC_tup, rdC_lst, rdC_dct, callF_ap, callC_so, callC2_so, wb_nil, wb_e, wb_k, tstF_ap, tstC_so, notF_ap, notC_so, andF_ap, andC_t, andC_f, orF_ap, orC_t, orC_f, ifF_ap, ifFC_t, ifFC_f, blF_ap, blC_so, andV_ap, andVC_t, andVC_f, orV_ap, orVC_t, orVC_f, notV_ap, notVC_so, truO_ap, truC_bl, truC_int, truC_lst, truC_tup, truC_non, fnF_ap, fnC_rt, fnC_nx, par2_ap, parC_so, parC2_so, par3_ap, par3C_so, par3C2_so, par3C3_so, tgN_ap, tgT2_ap, tgT3_ap, appF_ap, appC0_so, stS_ap, stC_so, stC1_so, yesF_ap, List.set_cons_zero, List.set_cons_succ, List.getElem?_cons_zero, List.getElem?_cons_succ, Option.map_some, Bool.not_true, Bool.not_false, Bool.false_eq_true, if_true, if_false, reduceCtorEq, addD_int, subD_int, ltD_int, leD_int, gtD_int, geD_int, min2D_int, max2D_int, negD_int, intD_int, intD_bl, eqD_int, neD_int, eqD_bl, neD_bl, lenD_lst, lenD_tup, listD_lst, listD_tup, tupleD_lst, tupleD_tup, lstD_0, lstD_1, lstD_2, lstD_3, tupD_0, tupD_1, tupD_2, tupD_3, slRD_lst, slRD_tup, hz, ha]
  refine fn_of (ρ0 := [dT a b h, .und, .und, .und, .und, .und, .und]) (r := [dT a b h, .lst ((cubL a b h).map e3), .und, .und, .und, .und, .und]) rfl ?_
  have b2 : loopS (tgT [tgN 2, tgN 3]) cubes_b2 ((List.range a).map fun x => .tup [eN x, .tup ((List.range b).map fun j => eN (h x j))]) [dT a b h, .lst [], .und, .und, .und, .und, .und] = some (.nx [dT a b h, .lst ((cubL a b h).map e3), .und, .und, .und, .und, .und]) := by
    refine loop_app (q := e3) (fun l => [dT a b h, l, .und, .und, .und, .und, .und]) (fun x => (List.range b).flatMap fun y => (List.range (h x y)).map fun z => (x, y, z)) (List.range a) [] (fun pre x post hp => ?_)
    have hx := (range_split hp).2
    have hle : (pre.flatMap fun x => (List.range b).flatMap fun y => (List.range (h x y)).map fun z => (x, y, z)).length + ((List.range b).flatMap fun y => (List.range (h x y)).map fun z => (x, y, z)).length ≤ 1000000 := by
      have : (((pre ++ [x]).flatMap fun x => (List.range b).flatMap fun y => (List.range (h x y)).map fun z => (x, y, z))).length ≤ (cubL a b h).length := by
        unfold cubL; rw [hp, show pre ++ x :: post = (pre ++ [x]) ++ post by simp]; exact flatMap_pre_len
      rw [List.flatMap_append, List.length_append] at this
      simp only [List.flatMap_cons, List.flatMap_nil, List.append_nil] at this
      omega
    rw [List.nil_append]
    generalize (pre.flatMap fun x => (List.range b).flatMap fun y => (List.range (h x y)).map fun z => (x, y, z)) = L at hle ⊢
    rw [turn_T2]
    unfold cubes_b2
    have e1 : enumSrc (rd 3) [dT a b h, .lst (L.map e3), eN x, .tup ((List.range b).map fun j => eN (h x j)), .und, .und, .und] = some ((List.range b).map fun y => .tup [eN y, eN (h x y)], [dT a b h, .lst (L.map e3), eN x, .tup ((List.range b).map fun j => eN (h x j)), .und, .und, .und]) := by
      rw [enumSrc_tup (f := rd 3) (xs := (List.range b).map fun j => eN (h x j)) (r := [dT a b h, .lst (L.map e3), eN x, .tup ((List.range b).map fun j => eN (h x j)), .und, .und, .und]) rfl, enum_range]
    simp only [seqS_ap, contS_nx, contS_rt, contS_bk, contS_ct, nilS_ap, killS_ap, setS_ap, setC_so, dropS_ap, dropC_so, retS_ap, retC_so, retN_ap, bkS_ap, ctS_ap, ifS_ap, ifC_t, ifC_f, forS_ap, forC_so, asgS_ap, asgC_so, seqF_nil, seqF_cons, seqC_so, seqC2_so, odK_f, odK_al, odE_f, odE_al, opF_ap, opC_so, opC2_so, cF_ap, rd_ap, rdC_non, rdC_bl, rdC_int, rdC_str, rdC_tup, rdC_lst, rdC_dct, callF_ap, callC_so, callC2_so, wb_nil, wb_e, wb_k, tstF_ap, tstC_so, notF_ap, notC_so, andF_ap, andC_t, andC_f, orF_ap, orC_t, orC_f, ifF_ap, ifFC_t, ifFC_f, blF_ap, blC_so, andV_ap, andVC_t, andVC_f, orV_ap, orVC_t, orVC_f, notV_ap, notVC_so, truO_ap, truC_bl, truC_int, truC_lst, truC_tup, truC_non, fnF_ap, fnC_rt, fnC_nx, par2_ap, parC_so, parC2_so, par3_ap, par3C_so, par3C2_so, par3C3_so, tgN_ap, tgT2_ap, tgT3_ap, appF_ap, appC0_so, stS_ap, stC_so, stC1_so, yesF_ap, List.set_cons_zero, List.set_cons_succ, List.getElem?_cons_zero, List.getElem?_cons_succ, Option.map_some, Bool.not_true, Bool.not_false, Bool.false_eq_true, if_true, if_false, reduceCtorEq, addD_int, subD_int, ltD_int, leD_int, gtD_int, geD_int, min2D_int, max2D_int, negD_int, intD_int, intD_bl, eqD_int, neD_int, eqD_bl, neD_bl, lenD_lst, lenD_tup, listD_lst, listD_tup, tupleD_lst, tupleD_tup, lstD_0, lstD_1, lstD_2, lstD_3, tupD_0, tupD_1, tupD_2, tupD_3, slRD_lst, slRD_tup, e1, b1 L x hx hle]
  have e2 : enumSrc (rd 0) [dT a b h, .lst [], .und, .und, .und, .und, .und] = some ((List.range a).map fun x => .tup [eN x, .tup ((List.range b).map fun j => eN (h x j))], [dT a b h, .lst [], .und, .und, .und, .und, .und]) := by
    rw [enumSrc_tup (f := rd 0) (xs := (List.range a).map fun x => .tup ((List.range b).map fun j => eN (h x j))) (r := [dT a b h, .lst [], .und, .und, .und, .und, .und]) rfl, enum_range]
  unfold S_cubes
  simp only [seqS_ap, contS_nx, contS_rt, contS_bk, contS_ct, nilS_ap, killS_ap, setS_ap, setC_so, dropS_ap, dropC_so, retS_ap, retC_so, retN_ap, bkS_ap, ctS_ap, ifS_ap, ifC_t, ifC_f, forS_ap, forC_so, asgS_ap, asgC_so, seqF_nil, seqF_cons, seqC_so, seqC2_so, odK_f, odK_al, odE_f, odE_al, opF_ap, opC_so, opC2_so, cF_ap, rd_ap, rdC_non, rdC_bl, rdC_int, rdC_str, rdC_tup, rdC_lst, rdC_dct, callF_ap, callC_so, callC2_so, wb_nil, wb_e, wb_k, tstF_ap, tstC_so, notF_ap, notC_so, andF_ap, andC_t, andC_f, orF_ap, orC_t, orC_f, ifF_ap, ifFC_t, ifFC_f, blF_ap, blC_so, andV_ap, andVC_t, andVC_f, orV_ap, orVC_t, orVC_f, notV_ap, notVC_so, truO_ap, truC_bl, truC_int, truC_lst, truC_tup, truC_non, fnF_ap, fnC_rt, fnC_nx, par2_ap, parC_so, parC2_so, par3_ap, par3C_so, par3C2_so, par3C3_so, tgN_ap, tgT2_ap, tgT3_ap, appF_ap, appC0_so, stS_ap, stC_so, stC1_so, yesF_ap, List.set_cons_zero, List.set_cons_succ, List.getElem?_cons_zero, List.getElem?_cons_succ, Option.map_some, Bool.not_true, Bool.not_false, Bool.false_eq_true, if_true, if_false, reduceCtorEq, addD_int, subD_int, ltD_int, leD_int, gtD_int, geD_int, min2D_int, max2D_int, negD_int, intD_int, intD_bl, eqD_int, neD_int, eqD_bl, neD_bl, lenD_lst, lenD_tup, listD_lst, listD_tup, tupleD_lst, tupleD_tup, lstD_0, lstD_1, lstD_2, lstD_3, tupD_0, tupD_1, tupD_2, tupD_3, slRD_lst, slRD_tup, e2, b2, sorted_e3_id (Nat.le_trans hlen (Nat.le_trans hl (by rw [sizeLine_eq]; omega))) (cubL_sorted a b h)]
/-! ### from_cubes -/
def dLL (a b : Nat) (m : Nat → Nat → Nat) : D := .lst ((List.range a).map fun i => .lst ((List.range b).map fun j => eN (m i j)))
theorem dLL_congr {a b : Nat} {f g : Nat → Nat → Nat} (h : ∀ i j, i < a → j < b → f i j = g i j) : dLL a b f = dLL a b g := by
  unfold dLL
  rw [rcongr fun i hi => congrArg D.lst (rcongr fun j hj => congrArg eN (h i j hi hj))]
theorem incS_ok {a b : Nat} {m : Nat → Nat → Nat} {x y : Nat} (hx : x < a) (hy : y < b) (r0 r1 r2 r6 r7 : D) :
    incS 3 4 5 1 [r0, r1, r2, dLL a b m, eN x, eN y, r6, r7] = some (.nx [r0, r1, r2, dLL a b (fun i j => m i j + if i = x ∧ j = y then 1 else 0), eN x, eN y, r6, r7]) := by
  have e1 : ixN ((List.range a).map fun i => D.lst ((List.range b).map fun j => eN (m i j))).length (x : Int) = some x := ixN_nat (by simpa using hx)
  have e2 : ixN ((List.range b).map fun j => eN (m x j)).length (y : Int) = some y := ixN_nat (by simpa using hy)
  have e3 : ((List.range a).map fun i => D.lst ((List.range b).map fun j => eN (m i j)))[x]? = some (.lst ((List.range b).map fun j => eN (m x j))) := rget hx
  have e4 : ((List.range b).map fun j => eN (m x j))[y]? = some (eN (m x y)) := rget hy
  have e5 : ((List.range b).map fun j => eN (m x j)).set y (.int ((m x y : Nat) + 1)) = (List.range b).map fun j => eN (m x j + if j = y then 1 else 0) := by
    rw [rset hy]
    refine rcongr fun j hj => ?_
    by_cases h : j = y
    · subst h; rw [if_pos rfl, if_pos rfl]; rfl
    · rw [if_neg h, if_neg h]; rfl
  have e6 : ((List.range a).map fun i => D.lst ((List.range b).map fun j => eN (m i j))).set x (.lst ((List.range b).map fun j => eN (m x j + if j = y then 1 else 0))) = (List.range a).map fun i => D.lst ((List.range b).map fun j => eN (m i j + if i = x ∧ j = y then 1 else 0)) := by
    rw [rset hx]
    refine rcongr fun i hi => ?_
    by_cases h : i = x
    · subst h; rw [if_pos rfl]; refine congrArg D.lst (rcongr fun j hj => ?_)
      simp
    · rw [if_neg h]; refine congrArg D.lst (rcongr fun j hj => ?_)
      rw [if_neg fun z => h z.1]; rfl
  unfold incS dLL eN at *
  simp only [List.getElem?_cons_zero, List.getElem?_cons_succ, e1, Option.bind_some, e3, e2, e4, e5, e6, List.set_cons_zero, List.set_cons_succ]
theorem from_cubes_ok {a b : Nat} {L : List N3} (ha : a ≤ 1000000) (hb : b ≤ 1000000) (hL : ∀ t ∈ L, t.1 < a ∧ t.2.1 < b) (dL : D) (hd : dL = .lst (L.map e3) ∨ dL = .tup (L.map e3)) :
    F_from_cubes [dL, .int (a : Nat), .int (b : Nat)] = some (dT a b (fun i j => L.countP fun t => decide (t.1 = i ∧ t.2.1 = j)), [dL, .int (a : Nat), .int (b : Nat)]) := by
  have hr : ∀ ρ, rdC (some dL) ρ = some (dL, ρ) := rdC_ne (by rcases hd with h | h <;> rw [h] <;> intro z <;> cases z)
  have c1 : from_cubes_c1 [dL, .int (a : Nat), .int (b : Nat), .und, .und, .und, .und, .und] = some (dLL a b (fun _ _ => 0), [dL, .int (a : Nat), .int (b : Nat), .und, .und, .und, .und, .und]) := by
    have e : mulLD [.lst [.int 0], .int (b : Nat)] = some (.lst ((List.range b).map fun _ => eN 0)) := by
      rw [mulLD_one (by rw [sizeLine_eq]; omega)]
      refine congrArg (fun z => some (D.lst z)) (List.eq_replicate_iff.mpr ⟨by simp, fun x hx => ?_⟩).symm
      obtain ⟨_, _, rfl⟩ := List.mem_map.mp hx
      rfl
    refine lc_map (e := eN) (fun i => [dL, .int (a : Nat), .int (b : Nat), .und, .und, .und, eN i, .und]) (fun _ => .lst ((List.range b).map fun _ => eN 0)) (rng1_of (by simp only [seqS_ap, contS_nx, contS_rt, contS_bk, contS_ct, nilS_ap, killS_ap, setS_ap, setC_so, dropS_ap, dropC_so, retS_ap, retC_so, retN_ap, bkS_ap, ctS_ap, ifS_ap, ifC_t, ifC_f, forS_ap, forC_so, asgS_ap, asgC_so, seqF_nil, seqF_cons, seqC_so, seqC2_so, odK_f, odK_al, odE_f, odE_al, opF_ap, opC_so, opC2_so, cF_ap, rd_ap, rdC_non, rdC_bl, rdC_int, rdC_str, rdC_tup, rdC_lst, rdC_dct, callF_ap, callC_so, callC2_so, wb_nil, wb_e, wb_k, tstF_ap, tstC_so, notF_ap, notC_so, andF_ap, andC_t, andC_f, orF_ap, orC_t, orC_f, ifF_ap, ifFC_t, ifFC_f, blF_ap, blC_so, andV_ap, andVC_t, andVC_f, orV_ap, orVC_t, orVC_f, notV_ap, notVC_so, truO_ap, truC_bl, truC_int, truC_lst, truC_tup, truC_non, fnF_ap, fnC_rt, fnC_nx, par2_ap, parC_so, parC2_so, par3_ap, par3C_so, par3C2_so, par3C3_so, tgN_ap, tgT2_ap, tgT3_ap, appF_ap, appC0_so, stS_ap, stC_so, stC1_so, yesF_ap, List.set_cons_zero, List.set_cons_succ, List.getElem?_cons_zero, List.getElem?_cons_succ, Option.map_some, Bool.not_true, Bool.not_false, Bool.false_eq_true, if_true, if_false, reduceCtorEq, addD_int, subD_int, ltD_int, leD_int, gtD_int, geD_int, min2D_int, max2D_int, negD_int, intD_int, intD_bl, eqD_int, neD_int, eqD_bl, neD_bl, lenD_lst, lenD_tup, listD_lst, listD_tup, tupleD_lst, tupleD_tup, lstD_0, lstD_1, lstD_2, lstD_3, tupD_0, tupD_1, tupD_2, tupD_3, slRD_lst, slRD_tup]) (by omega)) (fun _ _ => rfl) (fun i hi => ?_) (fun _ _ => rfl) rfl (by rw [List.length_range, sizeLine_eq]; omega)
    simp only [seqS_ap, contS_nx, contS_rt, contS_bk, contS_ct, nilS_ap, killS_ap, setS_ap, setC_so, dropS_ap, dropC_so, retS_ap, retC_so, retN_ap, bkS_ap, ctS_ap, ifS_ap, ifC_t, ifC_f, forS_ap, forC_so, asgS_ap, asgC_so, seqF_nil, seqF_cons, seqC_so, seqC2_so, odK_f, odK_al, odE_f, odE_al, opF_ap, opC_so, opC2_so, cF_ap, rd_ap, rdC_non, rdC_bl, rdC_int, rdC_str, rdC_tup, rdC_lst, rdC_dct, callF_ap, callC_so, callC2_so, wb_nil, wb_e, wb_k, tstF_ap, tstC_so, notF_ap, notC_so, andF_ap, andC_t, andC_f, orF_ap, orC_t, orC_f, ifF_ap, ifFC_t, ifFC_f, blF_ap, blC_so, andV_ap, andVC_t, andVC_f, orV_ap, orVC_t, orVC_f, notV_ap, notVC_so, truO_ap, truC_bl, truC_int, truC_lst, truC_tup, truC_non, fnF_ap, fnC_rt, fnC_nx, par2_ap, parC_so, parC2_so, par3_ap, par3C_so, par3C2_so, par3C3_so, tgN_ap, tgT2_ap, tgT3_ap, appF_ap, appC0_so, stS_ap, stC_so, stC1_so, yesF_ap, List.set_cons_zero, List.set_cons_succ, List.getElem?_cons_zero, List.getElem?_cons_succ, Option.map_some, Bool.not_true, Bool.not_false, Bool.false_eq_true, if_true, if_false, reduceCtorEq, addD_int, subD_int, ltD_int, leD_int, gtD_int, geD_int, min2D_int, max2D_int, negD_int, intD_int, intD_bl, eqD_int, neD_int, eqD_bl, neD_bl, lenD_lst, lenD_tup, listD_lst, listD_tup, tupleD_lst, tupleD_tup, lstD_0, lstD_1, lstD_2, lstD_3, tupD_0, tupD_1, tupD_2, tupD_3, slRD_lst, slRD_tup, e]
  have src : seqSrc (rd 0) [dL, .int (a : Nat), .int (b : Nat), dLL a b (fun _ _ => 0), .und, .und, .und, .und] = some (L.map e3, [dL, .int (a : Nat), .int (b : Nat), dLL a b (fun _ _ => 0), .und, .und, .und, .und]) := by
    rcases hd with h | h <;> rw [h] <;> rfl
  have hlp := loop_inv (e := e3) (m := tgT [tgN 4, tgN 5, tgN 6]) (s := from_cubes_b1) (fun d : D => [dL, .int (a : Nat), .int (b : Nat), d, .und, .und, .und, .und]) (fun d t => match d with | d => d) (fun pre d => True) [] (fun pre x post a hp => by simp at hp)
  have lp : ∀ (M : List N3) (m : Nat → Nat → Nat), (∀ t ∈ M, t.1 < a ∧ t.2.1 < b) → loopS (tgT [tgN 4, tgN 5, tgN 6]) from_cubes_b1 (M.map e3) [dL, .int (a : Nat), .int (b : Nat), dLL a b m, .und, .und, .und, .und] =
      some (.nx [dL, .int (a : Nat), .int (b : Nat), dLL a b (fun i j => m i j + M.countP fun t => decide (t.1 = i ∧ t.2.1 = j)), .und, .und, .und, .und]) := by
    intro M
    induction M with
    | nil => intro m _; rfl
    | cons t M ih =>
      intro m hM
      obtain ⟨hx, hy⟩ := hM t List.mem_cons_self
      have ht : turn (tgT [tgN 4, tgN 5, tgN 6]) from_cubes_b1 (e3 t) [dL, .int (a : Nat), .int (b : Nat), dLL a b m, .und, .und, .und, .und] = some (.nx [dL, .int (a : Nat), .int (b : Nat), dLL a b (fun i j => m i j + if i = t.1 ∧ j = t.2.1 then 1 else 0), .und, .und, .und, .und]) := by
        unfold e3
        rw [turn_T3]
        unfold from_cubes_b1
        simp only [seqS_ap, contS_nx, contS_rt, contS_bk, contS_ct, nilS_ap, killS_ap, setS_ap, setC_so, dropS_ap, dropC_so, retS_ap, retC_so, retN_ap, bkS_ap, ctS_ap, ifS_ap, ifC_t, ifC_f, forS_ap, forC_so, asgS_ap, asgC_so, seqF_nil, seqF_cons, seqC_so, seqC2_so, odK_f, odK_al, odE_f, odE_al, opF_ap, opC_so, opC2_so, cF_ap, rd_ap, rdC_non, rdC_bl, rdC_int, rdC_str, rdC_tup, rdC_lst, rdC_dct, callF_ap, callC_so, callC2_so, wb_nil, wb_e, wb_k, tstF_ap, tstC_so, notF_ap, notC_so, andF_ap, andC_t, andC_f, orF_ap, orC_t, orC_f, ifF_ap, ifFC_t, ifFC_f, blF_ap, blC_so, andV_ap, andVC_t, andVC_f, orV_ap, orVC_t, orVC_f, notV_ap, notVC_so, truO_ap, truC_bl, truC_int, truC_lst, truC_tup, truC_non, fnF_ap, fnC_rt, fnC_nx, par2_ap, parC_so, parC2_so, par3_ap, par3C_so, par3C2_so, par3C3_so, tgN_ap, tgT2_ap, tgT3_ap, appF_ap, appC0_so, stS_ap, stC_so, stC1_so, yesF_ap, List.set_cons_zero, List.set_cons_succ, List.getElem?_cons_zero, List.getElem?_cons_succ, Option.map_some, Bool.not_true, Bool.not_false, Bool.false_eq_true, if_true, if_false, reduceCtorEq, addD_int, subD_int, ltD_int, leD_int, gtD_int, geD_int, min2D_int, max2D_int, negD_int, intD_int, intD_bl, eqD_int, neD_int, eqD_bl, neD_bl, lenD_lst, lenD_tup, listD_lst, listD_tup, tupleD_lst, tupleD_tup, lstD_0, lstD_1, lstD_2, lstD_3, tupD_0, tupD_1, tupD_2, tupD_3, slRD_lst, slRD_tup, incS_ok hx hy]
      rw [List.map_cons, loopS_cons, ht, loopC_nx, ih _ fun u hu => hM u (List.mem_cons_of_mem _ hu)]
      have : dLL a b (fun i j => (m i j + if i = t.1 ∧ j = t.2.1 then 1 else 0) + M.countP fun t => decide (t.1 = i ∧ t.2.1 = j)) = dLL a b (fun i j => m i j + (t :: M).countP fun t => decide (t.1 = i ∧ t.2.1 = j)) := by
        refine dLL_congr fun i j _ _ => ?_
        rw [List.countP_cons]
        have : (if i = t.1 ∧ j = t.2.1 then 1 else 0) = (if decide (t.1 = i ∧ t.2.1 = j) = true then 1 else 0) := by
          by_cases h : i = t.1 ∧ j = t.2.1
          · rw [if_pos h, if_pos (by simp [h])]
          · rw [if_neg h, if_neg (by simp only [decide_eq_true_eq]; exact fun z => h ⟨z.1.symm, z.2.symm⟩)]
        omega
      rw [this]
  have c2 : ∀ m, from_cubes_c2 [dL, .int (a : Nat), .int (b : Nat), dLL a b m, .und, .und, .und, .und] = some (.lst ((List.range a).map fun i => .tup ((List.range b).map fun j => eN (m i j))), [dL, .int (a : Nat), .int (b : Nat), dLL a b m, .und, .und, .und, .und]) := by
    intro m
    refine lc_map (xs := List.range a) (e := fun i => .lst ((List.range b).map fun j => eN (m i j))) (fun i => [dL, .int (a : Nat), .int (b : Nat), dLL a b m, .und, .und, .und, .lst ((List.range b).map fun j => eN (m i j))]) (fun i => .tup ((List.range b).map fun j => eN (m i j))) rfl (fun _ _ => rfl) (fun i hi => ?_) (fun _ _ => rfl) rfl (by rw [List.length_range, sizeLine_eq]; omega)
    simp only [seqS_ap, contS_nx, contS_rt, contS_bk, contS_ct, nilS_ap, killS_ap, setS_ap, setC_so, dropS_ap, dropC_so, retS_ap, retC_so, retN_ap, bkS_ap, ctS_ap, ifS_ap, ifC_t, ifC_f, forS_ap, forC_so, asgS_ap, asgC_so, seqF_nil, seqF_cons, seqC_so, seqC2_so, odK_f, odK_al, odE_f, odE_al, opF_ap, opC_so, opC2_so, cF_ap, rd_ap, rdC_non, rdC_bl, rdC_int, rdC_str, rdC_tup, rdC_lst, rdC_dct, callF_ap, callC_so, callC2_so, wb_nil, wb_e, wb_k, tstF_ap, tstC_so, notF_ap, notC_so, andF_ap, andC_t, andC_f, orF_ap, orC_t, orC_f, ifF_ap, ifFC_t, ifFC_f, blF_ap, blC_so, andV_ap, andVC_t, andVC_f, orV_ap, orVC_t, orVC_f, notV_ap, notVC_so, truO_ap, truC_bl, truC_int, truC_lst, truC_tup, truC_non, fnF_ap, fnC_rt, fnC_nx, par2_ap, parC_so, parC2_so, par3_ap, par3C_so, par3C2_so, par3C3_so, tgN_ap, tgT2_ap, tgT3_ap, appF_ap, appC0_so, stS_ap, stC_so, stC1_so, yesF_ap, List.set_cons_zero, List.set_cons_succ, List.getElem?_cons_zero, List.getElem?_cons_succ, Option.map_some, Bool.not_true, Bool.not_false, Bool.false_eq_true, if_true, if_false, reduceCtorEq, addD_int, subD_int, ltD_int, leD_int, gtD_int, geD_int, min2D_int, max2D_int, negD_int, intD_int, intD_bl, eqD_int, neD_int, eqD_bl, neD_bl, lenD_lst, lenD_tup, listD_lst, listD_tup, tupleD_lst, tupleD_tup, lstD_0, lstD_1, lstD_2, lstD_3, tupD_0, tupD_1, tupD_2, tupD_3, slRD_lst, slRD_tup]
  refine fn_of (ρ0 := [dL, .int (a : Nat), .int (b : Nat), .und, .und, .und, .und, .und]) rfl ?_ (r := [dL, .int (a : Nat), .int (b : Nat), dLL a b (fun i j => L.countP fun t => decide (t.1 = i ∧ t.2.1 = j)), .und, .und, .und, .und])
  unfold S_from_cubes
  simp only [seqS_ap, contS_nx, contS_rt, contS_bk, contS_ct, nilS_ap, killS_ap, setS_ap, setC_so, dropS_ap, dropC_so, retS_ap, retC_so, retN_ap, bkS_ap, ctS_ap, ifS_ap, ifC_t, ifC_f, forS_ap, forC_so, asgS_ap, asgC_so, seqF_nil, seqF_cons, seqC_so, seqC2_so, odK_f, odK_al, odE_f, odE_al, opF_ap, opC_so, opC2_so, cF_ap, rd_ap, rdC_non, rdC_bl, rdC_int, rdC_str, rdC_tup, rdC_lst, rdC_dct, callF_ap, callC_so, callC2_so, wb_nil, wb_e, wb_k, tstF_ap, tstC_so, notF_ap, notC_so, andF_ap, andC_t, andC_f, orF_ap, orC_t, orC_f, ifF_ap, ifFC_t, ifFC_f, blF_ap, blC_so, andV_ap, andVC_t, andVC_f, orV_ap, orVC_t, orVC_f, notV_ap, notVC_so, truO_ap, truC_bl, truC_int, truC_lst, truC_tup, truC_non, fnF_ap, fnC_rt, fnC_nx, par2_ap, parC_so, parC2_so, par3_ap, par3C_so, par3C2_so, par3C3_so, tgN_ap, tgT2_ap, tgT3_ap, appF_ap, appC0_so, stS_ap, stC_so, stC1_so, yesF_ap, List.set_cons_zero, List.set_cons_succ, List.getElem?_cons_zero, List.getElem?_cons_succ, Option.map_some, Bool.not_true, Bool.not_false, Bool.false_eq_true, if_true, if_false, reduceCtorEq, addD_int, subD_int, ltD_int, leD_int, gtD_int, geD_int, min2D_int, max2D_int, negD_int, intD_int, intD_bl, eqD_int, neD_int, eqD_bl, neD_bl, lenD_lst, lenD_tup, listD_lst, listD_tup, tupleD_lst, tupleD_tup, lstD_0, lstD_1, lstD_2, lstD_3, tupD_0, tupD_1, tupD_2, tupD_3, slRD_lst, slRD_tup, c1, src, lp L _ hL, c2, Nat.zero_add]
  rfl
/-! ### moved, swapped, rolled -/
theorem moved_ok {L : List N3} (hl : L.length ≤ sizeLine) : ∃ L' : List N3, L'.Perm (L.map fun t => (t.2.2, t.1, t.2.1)) ∧
    F_moved [.lst (L.map e3), .tup [.int 2, .int 0, .int 1]] = some (.lst (L'.map e3), [.lst (L.map e3), .tup [.int 2, .int 0, .int 1]]) := by
  obtain ⟨L', hp, hs⟩ := sorted_e3 (L := L.map fun t => (t.2.2, t.1, t.2.1)) (by rw [List.length_map]; exact hl)
  refine ⟨L', hp, ?_⟩
  refine fn_of (ρ0 := [.lst (L.map e3), .tup [.int 2, .int 0, .int 1], .und]) (r := [.lst (L.map e3), .tup [.int 2, .int 0, .int 1], .und]) rfl ?_
  have c : moved_c1 [.lst (L.map e3), .tup [.int 2, .int 0, .int 1], .und] = some (.lst ((L.map fun t => (t.2.2, t.1, t.2.1)).map e3), [.lst (L.map e3), .tup [.int 2, .int 0, .int 1], .und]) := by
    rw [List.map_map]
    refine lc_map (xs := L) (e := e3) (fun t => [.lst (L.map e3), .tup [.int 2, .int 0, .int 1], e3 t]) (fun t => e3 (t.2.2, t.1, t.2.1)) rfl (fun _ _ => rfl) (fun t ht => ?_) (fun _ _ => rfl) rfl hl
    have i0 : ixD [.tup [.int 2, .int 0, .int 1], .int 0] = some (.int 2) := rfl
    have i1 : ixD [.tup [.int 2, .int 0, .int 1], .int 1] = some (.int 0) := rfl
    have i2 : ixD [.tup [.int 2, .int 0, .int 1], .int 2] = some (.int 1) := rfl
    have j0 : ixD [.tup [eN t.1, eN t.2.1, eN t.2.2], .int 0] = some (eN t.1) := rfl
    have j1 : ixD [.tup [eN t.1, eN t.2.1, eN t.2.2], .int 1] = some (eN t.2.1) := rfl
    have j2 : ixD [.tup [eN t.1, eN t.2.1, eN t.2.2], .int 2] = some (eN t.2.2) := rfl
    simp only [e3, seqS_ap, contS_nx, contS_rt, contS_bk, contS_ct, nilS_ap, killS_ap, setS_ap, setC_so, dropS_ap, dropC_so, retS_ap, retC_so, retN_ap, bkS_ap, ctS_ap, ifS_ap, ifC_t, ifC_f, forS_ap, forC_so, asgS_ap, asgC_so, seqF_nil, seqF_cons, seqC_so, seqC2_so, odK_f, odK_al, odE_f, odE_al, opF_ap, opC_so, opC2_so, cF_ap, rd_ap, rdC_non, rdC_bl, rdC_int, rdC_str, rdC_tup, rdC_lst, rdC_dct, callF_ap, callC_so, callC2_so, wb_nil, wb_e, wb_k, tstF_ap, tstC_so, notF_ap, notC_so, andF_ap, andC_t, andC_f, orF_ap, orC_t, orC_f, ifF_ap, ifFC_t, ifFC_f, blF_ap, blC_so, andV_ap, andVC_t, andVC_f, orV_ap, orVC_t, orVC_f, notV_ap, notVC_so, truO_ap, truC_bl, truC_int, truC_lst, truC_tup, truC_non, fnF_ap, fnC_rt, fnC_nx, par2_ap, parC_so, parC2_so, par3_ap, par3C_so, par3C2_so, par3C3_so, tgN_ap, tgT2_ap, tgT3_ap, appF_ap, appC0_so, stS_ap, stC_so, stC1_so, yesF_ap, List.set_cons_zero, List.set_cons_succ, List.getElem?_cons_zero, List.getElem?_cons_succ, Option.map_some, Bool.not_true, Bool.not_false, Bool.false_eq_true, if_true, if_false, reduceCtorEq, addD_int, subD_int, ltD_int, leD_int, gtD_int, geD_int, min2D_int, max2D_int, negD_int, intD_int, intD_bl, eqD_int, neD_int, eqD_bl, neD_bl, lenD_lst, lenD_tup, listD_lst, listD_tup, tupleD_lst, tupleD_tup, lstD_0, lstD_1, lstD_2, lstD_3, tupD_0, tupD_1, tupD_2, tupD_3, slRD_lst, slRD_tup, i0, i1, i2, j0, j1, j2]
  unfold S_moved
  simp only [seqS_ap, contS_nx, contS_rt, contS_bk, contS_ct, nilS_ap, killS_ap, setS_ap, setC_so, dropS_ap, dropC_so, retS_ap, retC_so, retN_ap, bkS_ap, ctS_ap, ifS_ap, ifC_t, ifC_f, forS_ap, forC_so, asgS_ap, asgC_so, seqF_nil, seqF_cons, seqC_so, seqC2_so, odK_f, odK_al, odE_f, odE_al, opF_ap, opC_so, opC2_so, cF_ap, rd_ap, rdC_non, rdC_bl, rdC_int, rdC_str, rdC_tup, rdC_lst, rdC_dct, callF_ap, callC_so, callC2_so, wb_nil, wb_e, wb_k, tstF_ap, tstC_so, notF_ap, notC_so, andF_ap, andC_t, andC_f, orF_ap, orC_t, orC_f, ifF_ap, ifFC_t, ifFC_f, blF_ap, blC_so, andV_ap, andVC_t, andVC_f, orV_ap, orVC_t, orVC_f, notV_ap, notVC_so, truO_ap, truC_bl, truC_int, truC_lst, truC_tup, truC_non, fnF_ap, fnC_rt, fnC_nx, par2_ap, parC_so, parC2_so, par3_ap, par3C_so, par3C2_so, par3C3_so, tgN_ap, tgT2_ap, tgT3_ap, appF_ap, appC0_so, stS_ap, stC_so, stC1_so, yesF_ap, List.set_cons_zero, List.set_cons_succ, List.getElem?_cons_zero, List.getElem?_cons_succ, Option.map_some, Bool.not_true, Bool.not_false, Bool.false_eq_true, if_true, if_false, reduceCtorEq, addD_int, subD_int, ltD_int, leD_int, gtD_int, geD_int, min2D_int, max2D_int, negD_int, intD_int, intD_bl, eqD_int, neD_int, eqD_bl, neD_bl, lenD_lst, lenD_tup, listD_lst, listD_tup, tupleD_lst, tupleD_tup, lstD_0, lstD_1, lstD_2, lstD_3, tupD_0, tupD_1, tupD_2, tupD_3, slRD_lst, slRD_tup, c, hs]
theorem swapped_ok {a b : Nat} {h : Nat → Nat → Nat} (ha0 : 0 < a) (ha : a ≤ 1000000) (hb : b ≤ 1000000) : F_swapped [dT a b h] = some (dT b a (fun j i => h i j), [dT a b h]) := by
  have c1 : ∀ j, j < b → swapped_c1 [dT a b h, eN j, .und] = some (.lst ((List.range a).map fun i => eN (h i j)), [dT a b h, eN j, .und]) := by
    intro j hj
    refine lc_map (xs := List.range a) (e := fun i => .tup ((List.range b).map fun j => eN (h i j))) (fun i => [dT a b h, eN j, .tup ((List.range b).map fun j => eN (h i j))]) (fun i => eN (h i j)) rfl (fun _ _ => rfl) (fun i hi => ?_) (fun _ _ => rfl) rfl (by rw [List.length_range, sizeLine_eq]; omega)
    have e : ixD [.tup ((List.range b).map fun j => eN (h i j)), eN j] = some (eN (h i j)) := ixD_tup (rget hj)
    simp only [seqS_ap, contS_nx, contS_rt, contS_bk, contS_ct, nilS_ap, killS_ap, setS_ap, setC_so, dropS_ap, dropC_so, retS_ap, retC_so, retN_ap, bkS_ap, ctS_ap, ifS_ap, ifC_t, ifC_f, forS_ap, forC_so, asgS_ap, asgC_so, seqF_nil, seqF_cons, seqC_so, seqC2_so, odK_f, odK_al, odE_f, odE_al, opF_ap, opC_so, opC2_so, cF_ap, rd_ap, rdC_non, rdC_bl, rdC_int, rdC_str, rdC_tup, rdC_lst, rdC_dct, callF_ap, callC_so, callC2_so, wb_nil, wb_e, wb_k, tstF_ap, tstC_so, notF_ap, notC_so, andF_ap, andC_t, andC_f, orF_ap, orC_t, orC_f, ifF_ap, ifFC_t, ifFC_f, blF_ap, blC_so, andV_ap, andVC_t, andVC_f, orV_ap, orVC_t, orVC_f, notV_ap, notVC_so, truO_ap, truC_bl, truC_int, truC_lst, truC_tup, truC_non, fnF_ap, fnC_rt, fnC_nx, par2_ap, parC_so, parC2_so, par3_ap, par3C_so, par3C2_so, par3C3_so, tgN_ap, tgT2_ap, tgT3_ap, appF_ap, appC0_so, stS_ap, stC_so, stC1_so, yesF_ap, List.set_cons_zero, List.set_cons_succ, List.getElem?_cons_zero, List.getElem?_cons_succ, Option.map_some, Bool.not_true, Bool.not_false, Bool.false_eq_true, if_true, if_false, reduceCtorEq, addD_int, subD_int, ltD_int, leD_int, gtD_int, geD_int, min2D_int, max2D_int, negD_int, intD_int, intD_bl, eqD_int, neD_int, eqD_bl, neD_bl, lenD_lst, lenD_tup, listD_lst, listD_tup, tupleD_lst, tupleD_tup, lstD_0, lstD_1, lstD_2, lstD_3, tupD_0, tupD_1, tupD_2, tupD_3, slRD_lst, slRD_tup, eN_rd, e]
  have c2 : swapped_c2 [dT a b h, .und, .und] = some (.lst ((List.range b).map fun j => .tup ((List.range a).map fun i => eN (h i j))), [dT a b h, .und, .und]) := by
    have e0 : ixD [dT a b h, .int 0] = some (.tup ((List.range b).map fun j => eN (h 0 j))) := ixD_tup (j := 0) (rget ha0)
    refine lc_map (e := eN) (fun j => [dT a b h, eN j, .und]) (fun j => .tup ((List.range a).map fun i => eN (h i j))) (rng1_of (n := b) (by simp only [seqS_ap, contS_nx, contS_rt, contS_bk, contS_ct, nilS_ap, killS_ap, setS_ap, setC_so, dropS_ap, dropC_so, retS_ap, retC_so, retN_ap, bkS_ap, ctS_ap, ifS_ap, ifC_t, ifC_f, forS_ap, forC_so, asgS_ap, asgC_so, seqF_nil, seqF_cons, seqC_so, seqC2_so, odK_f, odK_al, odE_f, odE_al, opF_ap, opC_so, opC2_so, cF_ap, rd_ap, rdC_non, rdC_bl, rdC_int, rdC_str, rdC_tup, rdC_lst, rdC_dct, callF_ap, callC_so, callC2_so, wb_nil, wb_e, wb_k, tstF_ap, tstC_so, notF_ap, notC_so, andF_ap, andC_t, andC_f, orF_ap, orC_t, orC_f, ifF_ap, ifFC_t, ifFC_f, blF_ap, blC_so, andV_ap, andVC_t, andVC_f, orV_ap, orVC_t, orVC_f, notV_ap, notVC_so, truO_ap, truC_bl, truC_int, truC_lst, truC_tup, truC_non, fnF_ap, fnC_rt, fnC_nx, par2_ap, parC_so, parC2_so, par3_ap, par3C_so, par3C2_so, par3C3_so, tgN_ap, tgT2_ap, tgT3_ap, appF_ap, appC0_so, stS_ap, stC_so, stC1_so, yesF_ap, List.set_cons_zero, List.set_cons_succ, List.getElem?_cons_zero, List.getElem?_cons_succ, Option.map_some, Bool.not_true, Bool.not_false, Bool.false_eq_true, if_true, if_false, reduceCtorEq, addD_int, subD_int, ltD_int, leD_int, gtD_int, geD_int, min2D_int, max2D_int, negD_int, intD_int, intD_bl, eqD_int, neD_int, eqD_bl, neD_bl, lenD_lst, lenD_tup, listD_lst, listD_tup, tupleD_lst, tupleD_tup, lstD_0, lstD_1, lstD_2, lstD_3, tupD_0, tupD_1, tupD_2, tupD_3, slRD_lst, slRD_tup, dT_rd, e0, List.length_map, List.length_range]) (by omega)) (fun _ _ => rfl) (fun j hj => ?_) (fun _ _ => rfl) rfl (by rw [List.length_range, sizeLine_eq]; omega)
    simp only [seqS_ap, contS_nx, contS_rt, contS_bk, contS_ct, nilS_ap, killS_ap, setS_ap, setC_so, dropS_ap, dropC_so, retS_ap, retC_so, retN_ap, bkS_ap, ctS_ap, ifS_ap, ifC_t, ifC_f, forS_ap, forC_so, asgS_ap, asgC_so, seqF_nil, seqF_cons, seqC_so, seqC2_so, odK_f, odK_al, odE_f, odE_al, opF_ap, opC_so, opC2_so, cF_ap, rd_ap, rdC_non, rdC_bl, rdC_int, rdC_str, rdC_tup, rdC_lst, rdC_dct, callF_ap, callC_so, callC2_so, wb_nil, wb_e, wb_k, tstF_ap, tstC_so, notF_ap, notC_so, andF_ap, andC_t, andC_f, orF_ap, orC_t, orC_f, ifF_ap, ifFC_t, ifFC_f, blF_ap, blC_so, andV_ap, andVC_t, andVC_f, orV_ap, orVC_t, orVC_f, notV_ap, notVC_so, truO_ap, truC_bl, truC_int, truC_lst, truC_tup, truC_non, fnF_ap, fnC_rt, fnC_nx, par2_ap, parC_so, parC2_so, par3_ap, par3C_so, par3C2_so, par3C3_so, tgN_ap, tgT2_ap, tgT3_ap, appF_ap, appC0_so, stS_ap, stC_so, stC1_so, yesF_ap, List.set_cons_zero, List.set_cons_succ, List.getElem?_cons_zero, List.getElem?_cons_succ, Option.map_some, Bool.not_true, Bool.not_false, Bool.false_eq_true, if_true, if_false, reduceCtorEq, addD_int, subD_int, ltD_int, leD_int, gtD_int, geD_int, min2D_int, max2D_int, negD_int, intD_int, intD_bl, eqD_int, neD_int, eqD_bl, neD_bl, lenD_lst, lenD_tup, listD_lst, listD_tup, tupleD_lst, tupleD_tup, lstD_0, lstD_1, lstD_2, lstD_3, tupD_0, tupD_1, tupD_2, tupD_3, slRD_lst, slRD_tup, c1 j (List.mem_range.mp hj)]
  refine fn_of (ρ0 := [dT a b h, .und, .und]) (r := [dT a b h, .und, .und]) rfl ?_
  unfold S_swapped
  simp only [seqS_ap, contS_nx, contS_rt, contS_bk, contS_ct, nilS_ap, killS_ap, setS_ap, setC_so, dropS_ap, dropC_so, retS_ap, retC_so, retN_ap, bkS_ap, ctS_ap, ifS_ap, ifC_t, ifC_f, forS_ap, forC_so, asgS_ap, asgC_so, seqF_nil, seqF_cons, seqC_so, seqC2_so, odK_f, odK_al, odE_f, odE_al, opF_ap, opC_so, opC2_so, cF_ap, rd_ap, rdC_non, rdC_bl, rdC_int, rdC_str, rdC_tup, rdC_lst, rdC_dct, callF_ap, callC_so, callC2_so, wb_nil, wb_e, wb_k, tstF_ap, tstC_so, notF_ap, notC_so, andF_ap, andC_t, andC_f, orF_ap, orC_t, orC_f, ifF_ap, ifFC_t, ifFC_f, blF_ap, blC_so, andV_ap, andVC_t, andVC_f, orV_ap, orVC_t, orVC_f, notV_ap, notVC_so, truO_ap, truC_bl, truC_int, truC_lst, truC_tup, truC_non, fnF_ap, fnC_rt, fnC_nx, par2_ap, parC_so, parC2_so, par3_ap, par3C_so, par3C2_so, par3C3_so, tgN_ap, tgT2_ap, tgT3_ap, appF_ap, appC0_so, stS_ap, stC_so, stC1_so, yesF_ap, List.set_cons_zero, List.set_cons_succ, List.getElem?_cons_zero, List.getElem?_cons_succ, Option.map_some, Bool.not_true, Bool.not_false, Bool.false_eq_true, if_true, if_false, reduceCtorEq, addD_int, subD_int, ltD_int, leD_int, gtD_int, geD_int, min2D_int, max2D_int, negD_int, intD_int, intD_bl, eqD_int, neD_int, eqD_bl, neD_bl, lenD_lst, lenD_tup, listD_lst, listD_tup, tupleD_lst, tupleD_tup, lstD_0, lstD_1, lstD_2, lstD_3, tupD_0, tupD_1, tupD_2, tupD_3, slRD_lst, slRD_tup, c2]
  rfl
structure PlaneP (a b c : Nat) (h : Nat → Nat → Nat) : Prop where
  le : ∀ i j, i < a → j < b → h i j ≤ c
  up : ∀ i j, i + 1 < a → j < b → h (i + 1) j ≤ h i j
  left : ∀ i j, i < a → j + 1 < b → h i (j + 1) ≤ h i j
theorem countP_range_flat {α : Type} (p : α → Bool) (g : Nat → List α) : ∀ n, ((List.range n).flatMap g).countP p = ((List.range n).map fun i => (g i).countP p).sum
  | 0 => rfl
  | n + 1 => by
    rw [List.range_succ, List.flatMap_append, List.countP_append, countP_range_flat p g n, List.map_append, List.sum_append]
    simp
theorem sum_zero : ∀ {xs : List Nat}, (∀ x ∈ xs, x = 0) → xs.sum = 0
  | [], _ => rfl
  | x :: xs, h => by rw [List.sum_cons, h x List.mem_cons_self, sum_zero fun y hy => h y (List.mem_cons_of_mem _ hy)]
theorem sum_range_one {n x v : Nat} (h : x < n) {f : Nat → Nat} (hx : f x = v) (ho : ∀ i, i < n → i ≠ x → f i = 0) : ((List.range n).map f).sum = v := by
  induction n with
  | zero => omega
  | succ n ih =>
    rw [List.range_succ, List.map_append, List.sum_append]
    simp only [List.map_cons, List.map_nil, List.sum_cons, List.sum_nil, Nat.add_zero]
    by_cases e : x = n
    · subst e
      have : ((List.range x).map f).sum = 0 := by
        refine sum_zero fun y hy => ?_
        obtain ⟨i, hi, rfl⟩ := List.mem_map.mp hy
        have := List.mem_range.mp hi
        exact ho i (by omega) (by omega)
      omega
    · rw [ih (by omega) fun i hi hne => ho i (by omega) hne, ho n (by omega) fun z => e z.symm]; omega
theorem count_range {n z : Nat} (h : z < n) : (List.range n).countP (fun w => w == z) = 1 := by
  induction n with
  | zero => omega
  | succ n ih =>
    rw [List.range_succ, List.countP_append, List.countP_cons, List.countP_nil]
    by_cases e : z = n
    · subst e
      have : (List.range z).countP (fun w => w == z) = 0 := List.countP_eq_zero.mpr fun w hw => by
        have := List.mem_range.mp hw
        simp; omega
      rw [this]; simp
    · rw [ih (by omega)]
      have : (n == z) = false := by simp; omega
      rw [this]; simp
theorem count_cub {a b : Nat} {h : Nat → Nat → Nat} {x y : Nat} (hx : x < a) (hy : y < b) : (cubL a b h).countP (fun t => decide (t.1 = x ∧ t.2.1 = y)) = h x y := by
  unfold cubL
  rw [countP_range_flat]
  refine sum_range_one hx ?_ fun i hi hne => ?_
  · rw [countP_range_flat]
    refine sum_range_one hy ?_ fun j hj hne => ?_
    · rw [List.countP_map, List.countP_eq_length.mpr, List.length_range]
      intro z _
      show decide (x = x ∧ y = y) = true
      simp
    · rw [List.countP_map, List.countP_eq_zero]
      intro z _
      show ¬ decide (x = x ∧ j = y) = true
      rw [decide_eq_true_eq]; omega
  · rw [List.countP_eq_zero]
    intro t ht
    obtain ⟨y', _, ht⟩ := List.mem_flatMap.mp ht
    obtain ⟨w, _, rfl⟩ := List.mem_map.mp ht
    show ¬ decide (i = x ∧ y' = y) = true
    rw [decide_eq_true_eq]; omega
/-- rolled once -/
def rollF (b : Nat) (h : Nat → Nat → Nat) : Nat → Nat → Nat := fun z x => (List.range b).countP fun y => decide (z < h x y)
theorem count_roll {a b : Nat} {h : Nat → Nat → Nat} {x z : Nat} (hx : x < a) : (cubL a b h).countP (fun t => decide (t.2.2 = z ∧ t.1 = x)) = rollF b h z x := by
  unfold cubL rollF
  rw [countP_range_flat]
  refine sum_range_one hx ?_ fun i hi hne => ?_
  · rw [countP_range_flat]
    have : ∀ y, ((List.range (h x y)).map fun z => (x, y, z)).countP (fun t : N3 => decide (t.2.2 = z ∧ t.1 = x)) = if z < h x y then 1 else 0 := by
      intro y
      rw [List.countP_map]
      by_cases hzy : z < h x y
      · rw [if_pos hzy]
        have e : ∀ w, ((fun t : N3 => decide (t.2.2 = z ∧ t.1 = x)) ∘ fun z => (x, y, z)) w = (w == z) := fun w => by
          show decide (w = z ∧ x = x) = _
          by_cases q : w = z <;> simp [q]
        rw [List.countP_congr (p := _) (q := fun w => w == z) (fun w _ => by rw [e w])]
        exact count_range hzy
      · rw [if_neg hzy, List.countP_eq_zero]
        intro w hw
        have := List.mem_range.mp hw
        show ¬ decide (w = z ∧ x = x) = true
        rw [decide_eq_true_eq]; omega
    rw [show (fun y => ((List.range (h x y)).map fun z => (x, y, z)).countP (fun t : N3 => decide (t.2.2 = z ∧ t.1 = x))) = fun y => if z < h x y then 1 else 0 from funext this]
    generalize List.range b = ys
    induction ys with
    | nil => rfl
    | cons y ys ih => rw [List.map_cons, List.sum_cons, List.countP_cons, ih]; simp only [decide_eq_true_eq]; omega
  · rw [List.countP_eq_zero]
    intro t ht
    obtain ⟨y, _, ht⟩ := List.mem_flatMap.mp ht
    obtain ⟨w, _, rfl⟩ := List.mem_map.mp ht
    show ¬ decide (w = z ∧ i = x) = true
    rw [decide_eq_true_eq]; omega
theorem rolled_ok {a b c : Nat} {h : Nat → Nat → Nat} (hc : ∀ i j, i < a → j < b → h i j ≤ c) (hl : a * (b * c) ≤ 1000000) (ha : a ≤ 1000000) (hcc : c ≤ 1000000) :
    F_rolled [dT a b h, eN c] = some (dT c a (rollF b h), [dT a b h, eN c]) := by
  have hlen := cubL_len hc
  obtain ⟨L', hp, hm⟩ := moved_ok (L := cubL a b h) (by rw [sizeLine_eq]; omega)
  have hf := from_cubes_ok (a := c) (b := a) (L := L') hcc ha (fun t ht => by
    obtain ⟨u, hu, rfl⟩ := List.mem_map.mp (hp.mem_iff.mp ht)
    have := mem_cubL.mp hu
    have := hc u.1 u.2.1 (by omega) (by omega)
    exact ⟨by show u.2.2 < c; omega, by show u.1 < a; omega⟩) _ (.inl rfl)
  refine fn_of (ρ0 := [dT a b h, eN c]) (r := [dT a b h, eN c]) rfl ?_
  have hlen2 : lenD [dT a b h] = some (.int (a : Nat)) := by unfold dT; rw [lenD_tup, List.length_map, List.length_range]
  unfold S_rolled eN
  simp only [seqS_ap, contS_nx, contS_rt, contS_bk, contS_ct, nilS_ap, killS_ap, setS_ap, setC_so, dropS_ap, dropC_so, retS_ap, retC_so, retN_ap, bkS_ap, ctS_ap, ifS_ap, ifC_t, ifC_f, forS_ap, forC_so, asgS_ap, asgC_so, seqF_nil, seqF_cons, seqC_so, seqC2_so, odK_f, odK_al, odE_f, odE_al, opF_ap, opC_so, opC2_so, cF_ap, rd_ap, rdC_non, rdC_bl, rdC_int, rdC_str, rdC_tup, rdC_lst, rdC_dct, callF_ap, callC_so, callC2_so, wb_nil, wb_e, wb_k, tstF_ap, tstC_so, notF_ap, notC_so, andF_ap, andC_t, andC_f, orF_ap, orC_t, orC_f, ifF_ap, ifFC_t, ifFC_f, blF_ap, blC_so, andV_ap, andVC_t, andVC_f, orV_ap, orVC_t, orVC_f, notV_ap, notVC_so, truO_ap, truC_bl, truC_int, truC_lst, truC_tup, truC_non, fnF_ap, fnC_rt, fnC_nx, par2_ap, parC_so, parC2_so, par3_ap, par3C_so, par3C2_so, par3C3_so, tgN_ap, tgT2_ap, tgT3_ap, appF_ap, appC0_so, stS_ap, stC_so, stC1_so, yesF_ap, List.set_cons_zero, List.set_cons_succ, List.getElem?_cons_zero, List.getElem?_cons_succ, Option.map_some, Bool.not_true, Bool.not_false, Bool.false_eq_true, if_true, if_false, reduceCtorEq, addD_int, subD_int, ltD_int, leD_int, gtD_int, geD_int, min2D_int, max2D_int, negD_int, intD_int, intD_bl, eqD_int, neD_int, eqD_bl, neD_bl, lenD_lst, lenD_tup, listD_lst, listD_tup, tupleD_lst, tupleD_tup, lstD_0, lstD_1, lstD_2, lstD_3, tupD_0, tupD_1, tupD_2, tupD_3, slRD_lst, slRD_tup, dT_rd, cubes_ok hc hl hcc, hm, hlen2, hf]
  refine congrArg (fun z => some (Out.rt z [dT a b h, .int (c : Nat)])) (dT_congr fun z x hz hx => ?_)
  rw [hp.countP_eq, List.countP_map, ← count_roll hx]
  rfl
/-- an initial piece is counted -/
theorem count_init {p : Nat → Bool} : ∀ {n : Nat}, (∀ y, y + 1 < n → p (y + 1) = true → p y = true) → ∀ y, y < n → (y < (List.range n).countP p ↔ p y = true)
  | 0, _, y, hy => absurd hy (Nat.not_lt_zero _)
  | n + 1, h, y, hy => by
    have ih := count_init (p := p) (n := n) fun z hz => h z (by omega)
    have hle : (List.range n).countP p ≤ n := by have := List.countP_le_length (p := p) (l := List.range n); rwa [List.length_range] at this
    rw [List.range_succ, List.countP_append, List.countP_cons, List.countP_nil, Nat.zero_add]
    by_cases hn : p n = true
    · have all : ∀ m, m ≤ n → p (n - m) = true := by
        intro m
        induction m with
        | zero => intro _; exact hn
        | succ m im => intro hm; exact h (n - (m + 1)) (by omega) (by rw [show n - (m + 1) + 1 = n - m by omega]; exact im (by omega))
      have hfull : (List.range n).countP p = n := by
        rw [List.countP_eq_length.mpr, List.length_range]
        intro z hz
        have := List.mem_range.mp hz
        have := all (n - z) (by omega)
        rwa [show n - (n - z) = z by omega] at this
      rw [hfull, if_pos hn]
      have := all (n - y) (by omega)
      rw [show n - (n - y) = y by omega] at this
      exact ⟨fun _ => this, fun _ => hy⟩
    · rw [if_neg hn, Nat.add_zero]
      by_cases hy2 : y < n
      · exact ih y hy2
      · have : y = n := by omega
        subst this
        exact ⟨fun hlt => by omega, fun hp => absurd hp hn⟩
theorem count_lt {n m : Nat} (h : m ≤ n) : (List.range n).countP (fun z => decide (z < m)) = m := by
  induction n with
  | zero => rw [List.range_zero, List.countP_nil]; omega
  | succ n ih =>
    rw [List.range_succ, List.countP_append, List.countP_cons, List.countP_nil]
    by_cases e : m = n + 1
    · subst e
      rw [List.countP_eq_length.mpr (by intro z hz; have := List.mem_range.mp hz; rw [decide_eq_true_eq]; omega), List.length_range]
      simp
    · rw [ih (by omega)]; simp only [decide_eq_true_eq]; split <;> omega
theorem rollF_le {b : Nat} {h : Nat → Nat → Nat} (z x : Nat) : rollF b h z x ≤ b := by
  unfold rollF
  have := List.countP_le_length (p := fun y => decide (z < h x y)) (l := List.range b)
  rwa [List.length_range] at this
theorem roll3 {a b c : Nat} {h : Nat → Nat → Nat} (H : PlaneP a b c h) {x y : Nat} (hx : x < a) (hy : y < b) : rollF c (rollF a (rollF b h)) x y = h x y := by
  have e : ∀ z, z < c → (x < rollF a (rollF b h) y z ↔ z < h x y) := by
    intro z hz
    have h1 : ∀ x', x' < a → (y < rollF b h z x' ↔ z < h x' y) := by
      intro x' hx'
      have := count_init (p := fun y => decide (z < h x' y)) (n := b) (fun w hw hp => by
        simp only [decide_eq_true_eq] at hp ⊢
        have := H.left x' w hx' hw
        omega) y hy
      simp only [decide_eq_true_eq] at this
      exact this
    have := count_init (p := fun x' => decide (y < rollF b h z x')) (n := a) (fun w hw hp => by
      simp only [decide_eq_true_eq] at hp ⊢
      rw [h1 w (by omega)]
      rw [h1 (w + 1) hw] at hp
      have := H.up w y hw hy
      omega) x hx
    simp only [decide_eq_true_eq] at this
    exact this.trans (h1 x hx)
  show (List.range c).countP (fun z => decide (x < rollF a (rollF b h) y z)) = h x y
  rw [List.countP_congr (q := fun z => decide (z < h x y)) (fun z hz => by simp only [decide_eq_true_eq]; exact e z (List.mem_range.mp hz))]
  exact count_lt (H.le x y hx hy)
/-! ### filled_up, volume -/
theorem filled_ok {a b c : Nat} {h : Nat → Nat → Nat} (hc : ∀ i j, i < a → j < b → h i j ≤ c) (ha : a ≤ 1000000) (hb : b ≤ 1000000) :
    F_filled_up [dT a b h, eN c] = some (dT a b (fun i j => c - h (a - 1 - i) (b - 1 - j)), [dT a b h, eN c]) := by
  unfold eN
  have c1 : ∀ i, i < a → filled_up_c1 [dT a b h, .int (c : Nat), .tup ((List.range b).map fun j => eN (h i j)), .und] = some (.lst ((List.range b).map fun j => eN (c - h i (b - 1 - j))), [dT a b h, .int (c : Nat), .tup ((List.range b).map fun j => eN (h i j)), .und]) := by
    intro i hi
    refine lc_map (xs := List.range b) (e := fun j => eN (h i (b - 1 - j))) (fun j => [dT a b h, .int (c : Nat), .tup ((List.range b).map fun j => eN (h i j)), eN (h i (b - 1 - j))]) (fun j => eN (c - h i (b - 1 - j))) ?_ (fun _ _ => rfl) (fun j hj => ?_) (fun _ _ => rfl) rfl (by rw [List.length_range, sizeLine_eq]; omega)
    · rw [revSrc_tup (xs := (List.range b).map fun j => eN (h i j)) (r := [dT a b h, .int (c : Nat), .tup ((List.range b).map fun j => eN (h i j)), .und]) rfl, rrev]
    · have hj := List.mem_range.mp hj
      have := hc i (b - 1 - j) hi (by omega)
      have e : subD [.int (c : Nat), eN (h i (b - 1 - j))] = some (eN (c - h i (b - 1 - j))) := by
        unfold eN; rw [subD_int]; congr 2; omega
      simp only [seqS_ap, contS_nx, contS_rt, contS_bk, contS_ct, nilS_ap, killS_ap, setS_ap, setC_so, dropS_ap, dropC_so, retS_ap, retC_so, retN_ap, bkS_ap, ctS_ap, ifS_ap, ifC_t, ifC_f, forS_ap, forC_so, asgS_ap, asgC_so, seqF_nil, seqF_cons, seqC_so, seqC2_so, odK_f, odK_al, odE_f, odE_al, opF_ap, opC_so, opC2_so, cF_ap, rd_ap, rdC_non, rdC_bl, rdC_int, rdC_str, rdC_tup, rdC_lst, rdC_dct, callF_ap, callC_so, callC2_so, wb_nil, wb_e, wb_k, tstF_ap, tstC_so, notF_ap, notC_so, andF_ap, andC_t, andC_f, orF_ap, orC_t, orC_f, ifF_ap, ifFC_t, ifFC_f, blF_ap, blC_so, andV_ap, andVC_t, andVC_f, orV_ap, orVC_t, orVC_f, notV_ap, notVC_so, truO_ap, truC_bl, truC_int, truC_lst, truC_tup, truC_non, fnF_ap, fnC_rt, fnC_nx, par2_ap, parC_so, parC2_so, par3_ap, par3C_so, par3C2_so, par3C3_so, tgN_ap, tgT2_ap, tgT3_ap, appF_ap, appC0_so, stS_ap, stC_so, stC1_so, yesF_ap, List.set_cons_zero, List.set_cons_succ, List.getElem?_cons_zero, List.getElem?_cons_succ, Option.map_some, Bool.not_true, Bool.not_false, Bool.false_eq_true, if_true, if_false, reduceCtorEq, addD_int, subD_int, ltD_int, leD_int, gtD_int, geD_int, min2D_int, max2D_int, negD_int, intD_int, intD_bl, eqD_int, neD_int, eqD_bl, neD_bl, lenD_lst, lenD_tup, listD_lst, listD_tup, tupleD_lst, tupleD_tup, lstD_0, lstD_1, lstD_2, lstD_3, tupD_0, tupD_1, tupD_2, tupD_3, slRD_lst, slRD_tup, eN_rd, e]
  have c2 : filled_up_c2 [dT a b h, .int (c : Nat), .und, .und] = some (.lst ((List.range a).map fun i => .tup ((List.range b).map fun j => eN (c - h (a - 1 - i) (b - 1 - j)))), [dT a b h, .int (c : Nat), .und, .und]) := by
    refine lc_map (xs := List.range a) (e := fun i => .tup ((List.range b).map fun j => eN (h (a - 1 - i) j))) (fun i => [dT a b h, .int (c : Nat), .tup ((List.range b).map fun j => eN (h (a - 1 - i) j)), .und]) (fun i => .tup ((List.range b).map fun j => eN (c - h (a - 1 - i) (b - 1 - j)))) ?_ (fun _ _ => rfl) (fun i hi => ?_) (fun _ _ => rfl) rfl (by rw [List.length_range, sizeLine_eq]; omega)
    · rw [revSrc_tup (xs := (List.range a).map fun i => .tup ((List.range b).map fun j => eN (h i j))) (r := [dT a b h, .int (c : Nat), .und, .und]) rfl, rrev]
    · have hi := List.mem_range.mp hi
      simp only [seqS_ap, contS_nx, contS_rt, contS_bk, contS_ct, nilS_ap, killS_ap, setS_ap, setC_so, dropS_ap, dropC_so, retS_ap, retC_so, retN_ap, bkS_ap, ctS_ap, ifS_ap, ifC_t, ifC_f, forS_ap, forC_so, asgS_ap, asgC_so, seqF_nil, seqF_cons, seqC_so, seqC2_so, odK_f, odK_al, odE_f, odE_al, opF_ap, opC_so, opC2_so, cF_ap, rd_ap, rdC_non, rdC_bl, rdC_int, rdC_str, rdC_tup, rdC_lst, rdC_dct, callF_ap, callC_so, callC2_so, wb_nil, wb_e, wb_k, tstF_ap, tstC_so, notF_ap, notC_so, andF_ap, andC_t, andC_f, orF_ap, orC_t, orC_f, ifF_ap, ifFC_t, ifFC_f, blF_ap, blC_so, andV_ap, andVC_t, andVC_f, orV_ap, orVC_t, orVC_f, notV_ap, notVC_so, truO_ap, truC_bl, truC_int, truC_lst, truC_tup, truC_non, fnF_ap, fnC_rt, fnC_nx, par2_ap, parC_so, parC2_so, par3_ap, par3C_so, par3C2_so, par3C3_so, tgN_ap, tgT2_ap, tgT3_ap, appF_ap, appC0_so, stS_ap, stC_so, stC1_so, yesF_ap, List.set_cons_zero, List.set_cons_succ, List.getElem?_cons_zero, List.getElem?_cons_succ, Option.map_some, Bool.not_true, Bool.not_false, Bool.false_eq_true, if_true, if_false, reduceCtorEq, addD_int, subD_int, ltD_int, leD_int, gtD_int, geD_int, min2D_int, max2D_int, negD_int, intD_int, intD_bl, eqD_int, neD_int, eqD_bl, neD_bl, lenD_lst, lenD_tup, listD_lst, listD_tup, tupleD_lst, tupleD_tup, lstD_0, lstD_1, lstD_2, lstD_3, tupD_0, tupD_1, tupD_2, tupD_3, slRD_lst, slRD_tup, c1 (a - 1 - i) (by omega)]
  refine fn_of (ρ0 := [dT a b h, .int (c : Nat), .und, .und]) (r := [dT a b h, .int (c : Nat), .und, .und]) rfl ?_
  unfold S_filled_up
  simp only [seqS_ap, contS_nx, contS_rt, contS_bk, contS_ct, nilS_ap, killS_ap, setS_ap, setC_so, dropS_ap, dropC_so, retS_ap, retC_so, retN_ap, bkS_ap, ctS_ap, ifS_ap, ifC_t, ifC_f, forS_ap, forC_so, asgS_ap, asgC_so, seqF_nil, seqF_cons, seqC_so, seqC2_so, odK_f, odK_al, odE_f, odE_al, opF_ap, opC_so, opC2_so, cF_ap, rd_ap, rdC_non, rdC_bl, rdC_int, rdC_str, rdC_tup, rdC_lst, rdC_dct, callF_ap, callC_so, callC2_so, wb_nil, wb_e, wb_k, tstF_ap, tstC_so, notF_ap, notC_so, andF_ap, andC_t, andC_f, orF_ap, orC_t, orC_f, ifF_ap, ifFC_t, ifFC_f, blF_ap, blC_so, andV_ap, andVC_t, andVC_f, orV_ap, orVC_t, orVC_f, notV_ap, notVC_so, truO_ap, truC_bl, truC_int, truC_lst, truC_tup, truC_non, fnF_ap, fnC_rt, fnC_nx, par2_ap, parC_so, parC2_so, par3_ap, par3C_so, par3C2_so, par3C3_so, tgN_ap, tgT2_ap, tgT3_ap, appF_ap, appC0_so, stS_ap, stC_so, stC1_so, yesF_ap, List.set_cons_zero, List.set_cons_succ, List.getElem?_cons_zero, List.getElem?_cons_succ, Option.map_some, Bool.not_true, Bool.not_false, Bool.false_eq_true, if_true, if_false, reduceCtorEq, addD_int, subD_int, ltD_int, leD_int, gtD_int, geD_int, min2D_int, max2D_int, negD_int, intD_int, intD_bl, eqD_int, neD_int, eqD_bl, neD_bl, lenD_lst, lenD_tup, listD_lst, listD_tup, tupleD_lst, tupleD_tup, lstD_0, lstD_1, lstD_2, lstD_3, tupD_0, tupD_1, tupD_2, tupD_3, slRD_lst, slRD_tup, c2]
  rfl
def volN (a b : Nat) (h : Nat → Nat → Nat) : Nat := ((List.range a).map fun i => ((List.range b).map fun j => h i j).sum).sum
theorem volume_ok {a b : Nat} {h : Nat → Nat → Nat} (ha : a ≤ 1000000) : F_volume [dT a b h] = some (eN (volN a b h), [dT a b h]) := by
  have c1 : volume_c1 [dT a b h, .und] = some (.lst (((List.range a).map fun i => ((List.range b).map fun j => h i j).sum).map eN), [dT a b h, .und]) := by
    rw [List.map_map]
    refine lc_map (xs := List.range a) (e := fun i => .tup ((List.range b).map fun j => eN (h i j))) (fun i => [dT a b h, .tup ((List.range b).map fun j => eN (h i j))]) (fun i => eN ((List.range b).map fun j => h i j).sum) rfl (fun _ _ => rfl) (fun i hi => ?_) (fun _ _ => rfl) rfl (by rw [List.length_range, sizeLine_eq]; omega)
    have e : sumD [.tup ((List.range b).map fun j => eN (h i j))] = some (eN ((List.range b).map fun j => h i j).sum) := by
      have := sumD_tupN ((List.range b).map fun j => h i j)
      rwa [List.map_map] at this
    simp only [seqS_ap, contS_nx, contS_rt, contS_bk, contS_ct, nilS_ap, killS_ap, setS_ap, setC_so, dropS_ap, dropC_so, retS_ap, retC_so, retN_ap, bkS_ap, ctS_ap, ifS_ap, ifC_t, ifC_f, forS_ap, forC_so, asgS_ap, asgC_so, seqF_nil, seqF_cons, seqC_so, seqC2_so, odK_f, odK_al, odE_f, odE_al, opF_ap, opC_so, opC2_so, cF_ap, rd_ap, rdC_non, rdC_bl, rdC_int, rdC_str, rdC_tup, rdC_lst, rdC_dct, callF_ap, callC_so, callC2_so, wb_nil, wb_e, wb_k, tstF_ap, tstC_so, notF_ap, notC_so, andF_ap, andC_t, andC_f, orF_ap, orC_t, orC_f, ifF_ap, ifFC_t, ifFC_f, blF_ap, blC_so, andV_ap, andVC_t, andVC_f, orV_ap, orVC_t, orVC_f, notV_ap, notVC_so, truO_ap, truC_bl, truC_int, truC_lst, truC_tup, truC_non, fnF_ap, fnC_rt, fnC_nx, par2_ap, parC_so, parC2_so, par3_ap, par3C_so, par3C2_so, par3C3_so, tgN_ap, tgT2_ap, tgT3_ap, appF_ap, appC0_so, stS_ap, stC_so, stC1_so, yesF_ap, List.set_cons_zero, List.set_cons_succ, List.getElem?_cons_zero, List.getElem?_cons_succ, Option.map_some, Bool.not_true, Bool.not_false, Bool.false_eq_true, if_true, if_false, reduceCtorEq, addD_int, subD_int, ltD_int, leD_int, gtD_int, geD_int, min2D_int, max2D_int, negD_int, intD_int, intD_bl, eqD_int, neD_int, eqD_bl, neD_bl, lenD_lst, lenD_tup, listD_lst, listD_tup, tupleD_lst, tupleD_tup, lstD_0, lstD_1, lstD_2, lstD_3, tupD_0, tupD_1, tupD_2, tupD_3, slRD_lst, slRD_tup, e]
  refine fn_of (ρ0 := [dT a b h, .und]) (r := [dT a b h, .und]) rfl ?_
  unfold S_volume
  simp only [seqS_ap, contS_nx, contS_rt, contS_bk, contS_ct, nilS_ap, killS_ap, setS_ap, setC_so, dropS_ap, dropC_so, retS_ap, retC_so, retN_ap, bkS_ap, ctS_ap, ifS_ap, ifC_t, ifC_f, forS_ap, forC_so, asgS_ap, asgC_so, seqF_nil, seqF_cons, seqC_so, seqC2_so, odK_f, odK_al, odE_f, odE_al, opF_ap, opC_so, opC2_so, cF_ap, rd_ap, rdC_non, rdC_bl, rdC_int, rdC_str, rdC_tup, rdC_lst, rdC_dct, callF_ap, callC_so, callC2_so, wb_nil, wb_e, wb_k, tstF_ap, tstC_so, notF_ap, notC_so, andF_ap, andC_t, andC_f, orF_ap, orC_t, orC_f, ifF_ap, ifFC_t, ifFC_f, blF_ap, blC_so, andV_ap, andVC_t, andVC_f, orV_ap, orVC_t, orVC_f, notV_ap, notVC_so, truO_ap, truC_bl, truC_int, truC_lst, truC_tup, truC_non, fnF_ap, fnC_rt, fnC_nx, par2_ap, parC_so, parC2_so, par3_ap, par3C_so, par3C2_so, par3C3_so, tgN_ap, tgT2_ap, tgT3_ap, appF_ap, appC0_so, stS_ap, stC_so, stC1_so, yesF_ap, List.set_cons_zero, List.set_cons_succ, List.getElem?_cons_zero, List.getElem?_cons_succ, Option.map_some, Bool.not_true, Bool.not_false, Bool.false_eq_true, if_true, if_false, reduceCtorEq, addD_int, subD_int, ltD_int, leD_int, gtD_int, geD_int, min2D_int, max2D_int, negD_int, intD_int, intD_bl, eqD_int, neD_int, eqD_bl, neD_bl, lenD_lst, lenD_tup, listD_lst, listD_tup, tupleD_lst, tupleD_tup, lstD_0, lstD_1, lstD_2, lstD_3, tupD_0, tupD_1, tupD_2, tupD_3, slRD_lst, slRD_tup, c1, sumD_lstN]
  rfl
/-! ### a drawn plane partition -/
/-- a row below another (or the first) -/
structure RowOk (c : Nat) (pr : Option (List Nat)) (row : List Nat) : Prop where
  le : ∀ (j v : Nat), row[j]? = some v → v ≤ c
  up : ∀ p, pr = some p → ∀ (j v u : Nat), row[j]? = some v → p[j]? = some u → v ≤ u
  left : ∀ (j v u : Nat), row[j]? = some v → row[j + 1]? = some u → u ≤ v
theorem RowOk.snoc {c : Nat} {pr : Option (List Nat)} {row : List Nat} (R : RowOk c pr row) {v : Nat} (h1 : v ≤ c) (h2 : ∀ p, pr = some p → ∀ u, p[row.length]? = some u → v ≤ u) (h3 : ∀ u, row[row.length - 1]? = some u → v ≤ u) : RowOk c pr (row ++ [v]) := by
  have get : ∀ (j w : Nat), (row ++ [v])[j]? = some w → (j < row.length ∧ row[j]? = some w) ∨ (j = row.length ∧ w = v) := by
    intro j w h
    by_cases hj : j < row.length
    · rw [List.getElem?_append_left hj] at h; exact .inl ⟨hj, h⟩
    · rw [List.getElem?_append_right (by omega)] at h
      obtain ⟨hl, e⟩ := List.getElem?_eq_some_iff.mp h
      simp at hl
      refine .inr ⟨by omega, ?_⟩
      simp at e
      exact e.symm
  refine ⟨fun j w h => ?_, fun p hp j w u h hu => ?_, fun j w u h hu => ?_⟩
  · rcases get j w h with ⟨_, h⟩ | ⟨_, rfl⟩
    · exact R.le j w h
    · exact h1
  · rcases get j w h with ⟨_, h⟩ | ⟨rfl, rfl⟩
    · exact R.up p hp j w u h hu
    · exact h2 p hp u hu
  · rcases get (j + 1) u hu with ⟨hl, hu'⟩ | ⟨e, rfl⟩
    · rcases get j w h with ⟨_, h⟩ | ⟨e, _⟩
      · exact R.left j w u h hu'
      · omega
    · rcases get j w h with ⟨_, h⟩ | ⟨e2, _⟩
      · refine h3 w ?_
        rw [show row.length - 1 = j by omega]; exact h
      · omega
theorem eN_int (n : Nat) : D.int (n : Int) = eN n := id rfl
/-- one number more: its bound, then the draws -/
theorem heap_draws (ns : List Int) (k cc : Int) (most : Nat) (hm : most < 1000000) (r2 r3 r4 r5 r6 r7 : D) :
    ∃ (v : Nat) (k' c' : Int), v ≤ most ∧ opF subD [odK 0 9, odE [0, 0] 0 (opF min2D [odK 0 9, odE [0, 0] 0 (opF mulD [odE [0] 0 (callF [odK 1 0, odE [] 0 (rd 1), odE [] 0 (opF addD [odK 0 9, odE [] 0 (cF (.int 1))])] F_ulaw_draw), odE [0] 0 (callF [odK 1 0, odE [] 0 (rd 1), odE [] 0 (cF (.int 2))] F_ulaw_draw)])])] [St0 k cc, scr ns, r2, r3, r4, r5, r6, r7, .und, eN most] = some (eN v, [St0 k' c', scr ns, r2, r3, r4, r5, r6, r7, .und, eN most]) := by
  obtain ⟨v1, k1, c1, h1, e1⟩ := drawN ns k cc (most + 1) (by omega) (by omega)
  obtain ⟨v2, k2, c2, h2, e2⟩ := drawN ns k1 c1 2 (by omega) (by omega)
  have hM : mulD [.int (v1 : Nat), .int (v2 : Nat)] = some (.int ((v1 * v2 : Nat) : Int)) := by rw [mulD_l (by omega), ← Int.natCast_mul]
  have hI : min2D [.int (most : Nat), .int ((v1 * v2 : Nat) : Int)] = some (.int ((min most (v1 * v2) : Nat) : Int)) := by
    rw [min2D_int]
    exact congrArg (fun z => some (D.int z)) (by split <;> omega)
  have hS : subD [.int (most : Nat), .int ((min most (v1 * v2) : Nat) : Int)] = some (.int ((most - min most (v1 * v2) : Nat) : Int)) := by
    rw [subD_int]
    exact congrArg (fun z => some (D.int z)) (by omega)
  have hA : addD [.int (most : Nat), .int 1] = some (.int ((most + 1 : Nat) : Int)) := rfl
  have e2' : F_ulaw_draw [St0 k1 c1, scr ns, .int 2] = some (.int (v2 : Nat), [St0 k2 c2, scr ns, .int 2]) := e2
  refine ⟨most - min most (v1 * v2), k2, c2, by omega, ?_⟩
  simp only [eN, seqS_ap, contS_nx, contS_rt, contS_bk, contS_ct, nilS_ap, killS_ap, setS_ap, setC_so, dropS_ap, dropC_so, retS_ap, retC_so, retN_ap, bkS_ap, ctS_ap, ifS_ap, ifC_t, ifC_f, forS_ap, forC_so, asgS_ap, asgC_so, seqF_nil, seqF_cons, seqC_so, seqC2_so, odK_f, odK_al, odE_f, odE_al, opF_ap, opC_so, opC2_so, cF_ap, rd_ap, rdC_non, rdC_bl, rdC_int, rdC_str, rdC_tup, rdC_lst, rdC_dct, callF_ap, callC_so, callC2_so, wb_nil, wb_e, wb_k, tstF_ap, tstC_so, notF_ap, notC_so, andF_ap, andC_t, andC_f, orF_ap, orC_t, orC_f, ifF_ap, ifFC_t, ifFC_f, blF_ap, blC_so, andV_ap, andVC_t, andVC_f, orV_ap, orVC_t, orVC_f, notV_ap, notVC_so, truO_ap, truC_bl, truC_int, truC_lst, truC_tup, truC_non, fnF_ap, fnC_rt, fnC_nx, par2_ap, parC_so, parC2_so, par3_ap, par3C_so, par3C2_so, par3C3_so, tgN_ap, tgT2_ap, tgT3_ap, appF_ap, appC0_so, stS_ap, stC_so, stC1_so, yesF_ap, List.set_cons_zero, List.set_cons_succ, List.getElem?_cons_zero, List.getElem?_cons_succ, Option.map_some, Bool.not_true, Bool.not_false, Bool.false_eq_true, if_true, if_false, reduceCtorEq, ltD_int, leD_int, gtD_int, geD_int, max2D_int, negD_int, intD_int, intD_bl, eqD_int, neD_int, eqD_bl, neD_bl, lenD_lst, lenD_tup, listD_lst, listD_tup, tupleD_lst, tupleD_tup, lstD_0, lstD_1, lstD_2, lstD_3, tupD_0, tupD_1, tupD_2, tupD_3, slRD_lst, slRD_tup, hA, e1, e2', hM, hI, hS]
theorem sum_congr {n : Nat} {f g : Nat → Nat} (h : ∀ i, i < n → f i = g i) : ((List.range n).map f).sum = ((List.range n).map g).sum := by rw [rcongr h]
theorem sum_rev {n : Nat} (f : Nat → Nat) : ((List.range n).map fun i => f (n - 1 - i)).sum = ((List.range n).map f).sum := by
  rw [← rrev]
  exact (List.reverse_perm _).sum_nat
theorem sum_add {n : Nat} (f g : Nat → Nat) : ((List.range n).map fun i => f i + g i).sum = ((List.range n).map f).sum + ((List.range n).map g).sum := by
  generalize List.range n = l
  induction l with
  | nil => rfl
  | cons x l ih => simp only [List.map_cons, List.sum_cons, ih]; omega
theorem sum_const (n c : Nat) : ((List.range n).map fun _ => c).sum = n * c := by
  induction n with
  | zero => simp
  | succ n ih => rw [List.range_succ, List.map_append, List.sum_append, ih, Nat.succ_mul]; simp
theorem vol_fill {a b c : Nat} {h : Nat → Nat → Nat} (hc : ∀ i j, i < a → j < b → h i j ≤ c) : volN a b (fun i j => c - h (a - 1 - i) (b - 1 - j)) + volN a b h = a * b * c := by
  unfold volN
  have e1 : ((List.range a).map fun i => ((List.range b).map fun j => c - h (a - 1 - i) (b - 1 - j)).sum).sum = ((List.range a).map fun i => ((List.range b).map fun j => c - h i j).sum).sum := by
    rw [sum_rev (fun i => ((List.range b).map fun j => c - h i (b - 1 - j)).sum)]
    exact sum_congr fun i _ => sum_rev (fun j => c - h i j)
  rw [e1, ← sum_add, sum_congr (g := fun _ => b * c) fun i hi => ?_, sum_const, Nat.mul_assoc]
  rw [← sum_add, sum_congr (g := fun _ => c) fun j hj => ?_, sum_const]
  have := hc i j hi hj
  omega
def eR (r : List Nat) : D := .tup (r.map eN)
theorem heap_inner (ns : List Int) (a b c i : Nat) (hb : b ≤ 1000000) (hc : c < 1000000) (rows : List (List Nat)) (hi : rows.length = i) (hbl : ∀ r ∈ rows, r.length = b) (k cc : Int) (hcl : ∀ r ∈ rows, ∀ v ∈ r, v ≤ c) :
    ∃ (k' c' : Int) (row : List Nat), loopS (tgN 8) ulaw_heap_b1 ((List.range b).map eN) [St0 k cc, scr ns, eN a, eN b, eN c, .lst (rows.map eR), eN i, .lst [], .und, .und] = some (.nx [St0 k' c', scr ns, eN a, eN b, eN c, .lst (rows.map eR), eN i, .lst (row.map eN), .und, .und]) ∧
      row.length = b ∧ RowOk c (if i = 0 then none else rows[i - 1]?) row := by
  have main := loop_rel (e := eN) (m := tgN 8) (s := ulaw_heap_b1) (σ := Int × Int × List Nat) (fun q => [St0 q.1 q.2.1, scr ns, eN a, eN b, eN c, .lst (rows.map eR), eN i, .lst (q.2.2.map eN), .und, .und])
    (fun pre q => q.2.2.length = pre.length ∧ RowOk c (if i = 0 then none else rows[i - 1]?) q.2.2) (List.range b) ?_ [] (List.range b) (k, cc, []) rfl ⟨rfl, ⟨fun j v h => by simp at h, fun p hp j v u h => by simp at h, fun j v u h => by simp at h⟩⟩
  · obtain ⟨⟨k', c', row⟩, h1, h2, h3⟩ := main
    exact ⟨k', c', row, h1, by simpa using h2, h3⟩
  · rintro pre j post ⟨k1, c1, row⟩ hp ⟨hl, R⟩
    obtain ⟨hj, hjb⟩ := range_split hp
    rw [← hl] at hj
    simp only at hl R hj ⊢
    subst hj
    -- the bound from above
    have f1 : ∃ m1 : Nat, m1 ≤ c ∧ (∀ p, (if i = 0 then none else rows[i - 1]?) = some p → ∀ u, p[row.length]? = some u → m1 ≤ u) ∧
        ifF (tstF (opF eqD [odK 0 6, odE [] 0 (cF (.int 0))])) (rd 4) (opF ixD [odE [] 0 (opF ixD [odK 1 5, odE [] 0 (opF subD [odK 0 6, odE [] 0 (cF (.int 1))])]), odK 0 8]) [St0 k1 c1, scr ns, eN a, eN b, eN c, .lst (rows.map eR), eN i, .lst (row.map eN), eN row.length, .und] = some (eN m1, [St0 k1 c1, scr ns, eN a, eN b, eN c, .lst (rows.map eR), eN i, .lst (row.map eN), eN row.length, .und]) := by
      cases i with
      | zero =>
        refine ⟨c, Nat.le_refl _, fun p hp => by simp at hp, ?_⟩
        have e : eqD [eN 0, .int 0] = some (.bl true) := rfl
        simp only [seqS_ap, contS_nx, contS_rt, contS_bk, contS_ct, nilS_ap, killS_ap, setS_ap, setC_so, dropS_ap, dropC_so, retS_ap, retC_so, retN_ap, bkS_ap, ctS_ap, ifS_ap, ifC_t, ifC_f, forS_ap, forC_so, asgS_ap, asgC_so, seqF_nil, seqF_cons, seqC_so, seqC2_so, odK_f, odK_al, odE_f, odE_al, opF_ap, opC_so, opC2_so, cF_ap, rd_ap, rdC_non, rdC_bl, rdC_int, rdC_str, rdC_tup, rdC_lst, rdC_dct, callF_ap, callC_so, callC2_so, wb_nil, wb_e, wb_k, tstF_ap, tstC_so, notF_ap, notC_so, andF_ap, andC_t, andC_f, orF_ap, orC_t, orC_f, ifF_ap, ifFC_t, ifFC_f, blF_ap, blC_so, andV_ap, andVC_t, andVC_f, orV_ap, orVC_t, orVC_f, notV_ap, notVC_so, truO_ap, truC_bl, truC_int, truC_lst, truC_tup, truC_non, fnF_ap, fnC_rt, fnC_nx, par2_ap, parC_so, parC2_so, par3_ap, par3C_so, par3C2_so, par3C3_so, tgN_ap, tgT2_ap, tgT3_ap, appF_ap, appC0_so, stS_ap, stC_so, stC1_so, yesF_ap, List.set_cons_zero, List.set_cons_succ, List.getElem?_cons_zero, List.getElem?_cons_succ, Option.map_some, Bool.not_true, Bool.not_false, Bool.false_eq_true, if_true, if_false, reduceCtorEq, addD_int, subD_int, ltD_int, leD_int, gtD_int, geD_int, min2D_int, max2D_int, negD_int, intD_int, intD_bl, eqD_int, neD_int, eqD_bl, neD_bl, lenD_lst, lenD_tup, listD_lst, listD_tup, tupleD_lst, tupleD_tup, lstD_0, lstD_1, lstD_2, lstD_3, tupD_0, tupD_1, tupD_2, tupD_3, slRD_lst, slRD_tup, eN_rd, e]
      | succ i =>
        have hp1 : i < rows.length := by omega
        have hpl : rows[i].length = b := hbl _ (List.getElem_mem hp1)
        have hpj : row.length < rows[i].length := by omega
        refine ⟨rows[i][row.length], hcl _ (List.getElem_mem hp1) _ (List.getElem_mem hpj), fun p hp u hu => ?_, ?_⟩
        · rw [if_neg (by omega), show i + 1 - 1 = i by omega, List.getElem?_eq_getElem hp1] at hp
          cases hp
          rw [List.getElem?_eq_getElem hpj] at hu
          cases hu; exact Nat.le_refl _
        · have e : eqD [eN (i + 1), .int 0] = some (.bl false) := by
            unfold eN; rw [eqD_int, decide_eq_false (by omega)]
          have s : subD [eN (i + 1), .int 1] = some (eN i) := by
            unfold eN; rw [subD_int]; exact congrArg (fun z => some (D.int z)) (by omega)
          have x1 : ixD [.lst (rows.map eR), eN i] = some (eR rows[i]) := ixD_lst (by rw [List.getElem?_map, List.getElem?_eq_getElem hp1]; rfl)
          have x2 : ixD [eR rows[i], eN row.length] = some (eN rows[i][row.length]) := ixD_tup (by rw [List.getElem?_map, List.getElem?_eq_getElem hpj]; rfl)
          simp only [seqS_ap, contS_nx, contS_rt, contS_bk, contS_ct, nilS_ap, killS_ap, setS_ap, setC_so, dropS_ap, dropC_so, retS_ap, retC_so, retN_ap, bkS_ap, ctS_ap, ifS_ap, ifC_t, ifC_f, forS_ap, forC_so, asgS_ap, asgC_so, seqF_nil, seqF_cons, seqC_so, seqC2_so, odK_f, odK_al, odE_f, odE_al, opF_ap, opC_so, opC2_so, cF_ap, rd_ap, rdC_non, rdC_bl, rdC_int, rdC_str, rdC_tup, rdC_lst, rdC_dct, callF_ap, callC_so, callC2_so, wb_nil, wb_e, wb_k, tstF_ap, tstC_so, notF_ap, notC_so, andF_ap, andC_t, andC_f, orF_ap, orC_t, orC_f, ifF_ap, ifFC_t, ifFC_f, blF_ap, blC_so, andV_ap, andVC_t, andVC_f, orV_ap, orVC_t, orVC_f, notV_ap, notVC_so, truO_ap, truC_bl, truC_int, truC_lst, truC_tup, truC_non, fnF_ap, fnC_rt, fnC_nx, par2_ap, parC_so, parC2_so, par3_ap, par3C_so, par3C2_so, par3C3_so, tgN_ap, tgT2_ap, tgT3_ap, appF_ap, appC0_so, stS_ap, stC_so, stC1_so, yesF_ap, List.set_cons_zero, List.set_cons_succ, List.getElem?_cons_zero, List.getElem?_cons_succ, Option.map_some, Bool.not_true, Bool.not_false, Bool.false_eq_true, if_true, if_false, reduceCtorEq, addD_int, subD_int, ltD_int, leD_int, gtD_int, geD_int, min2D_int, max2D_int, negD_int, intD_int, intD_bl, eqD_int, neD_int, eqD_bl, neD_bl, lenD_lst, lenD_tup, listD_lst, listD_tup, tupleD_lst, tupleD_tup, lstD_0, lstD_1, lstD_2, lstD_3, tupD_0, tupD_1, tupD_2, tupD_3, slRD_lst, slRD_tup, eN_rd, e, s, x1, x2]
    obtain ⟨m1, hm1, hm1p, e1⟩ := f1
    have f2 : ∃ m2 : Nat, m2 ≤ m1 ∧ (∀ u, row[row.length - 1]? = some u → m2 ≤ u) ∧
        ifF (tstF (opF eqD [odK 0 8, odE [] 0 (cF (.int 0))])) (rd 9) (opF min2D [odK 0 9, odE [] 0 (opF ixD [odK 1 7, odE [] 0 (opF subD [odK 0 8, odE [] 0 (cF (.int 1))])])]) [St0 k1 c1, scr ns, eN a, eN b, eN c, .lst (rows.map eR), eN i, .lst (row.map eN), eN row.length, eN m1] = some (eN m2, [St0 k1 c1, scr ns, eN a, eN b, eN c, .lst (rows.map eR), eN i, .lst (row.map eN), eN row.length, eN m1]) := by
      by_cases h0 : row.length = 0
      · refine ⟨m1, Nat.le_refl _, fun u hu => by rw [List.length_eq_zero_iff.mp h0] at hu; simp at hu, ?_⟩
        have e : eqD [eN row.length, .int 0] = some (.bl true) := by rw [h0]; rfl
        simp only [seqS_ap, contS_nx, contS_rt, contS_bk, contS_ct, nilS_ap, killS_ap, setS_ap, setC_so, dropS_ap, dropC_so, retS_ap, retC_so, retN_ap, bkS_ap, ctS_ap, ifS_ap, ifC_t, ifC_f, forS_ap, forC_so, asgS_ap, asgC_so, seqF_nil, seqF_cons, seqC_so, seqC2_so, odK_f, odK_al, odE_f, odE_al, opF_ap, opC_so, opC2_so, cF_ap, rd_ap, rdC_non, rdC_bl, rdC_int, rdC_str, rdC_tup, rdC_lst, rdC_dct, callF_ap, callC_so, callC2_so, wb_nil, wb_e, wb_k, tstF_ap, tstC_so, notF_ap, notC_so, andF_ap, andC_t, andC_f, orF_ap, orC_t, orC_f, ifF_ap, ifFC_t, ifFC_f, blF_ap, blC_so, andV_ap, andVC_t, andVC_f, orV_ap, orVC_t, orVC_f, notV_ap, notVC_so, truO_ap, truC_bl, truC_int, truC_lst, truC_tup, truC_non, fnF_ap, fnC_rt, fnC_nx, par2_ap, parC_so, parC2_so, par3_ap, par3C_so, par3C2_so, par3C3_so, tgN_ap, tgT2_ap, tgT3_ap, appF_ap, appC0_so, stS_ap, stC_so, stC1_so, yesF_ap, List.set_cons_zero, List.set_cons_succ, List.getElem?_cons_zero, List.getElem?_cons_succ, Option.map_some, Bool.not_true, Bool.not_false, Bool.false_eq_true, if_true, if_false, reduceCtorEq, addD_int, subD_int, ltD_int, leD_int, gtD_int, geD_int, min2D_int, max2D_int, negD_int, intD_int, intD_bl, eqD_int, neD_int, eqD_bl, neD_bl, lenD_lst, lenD_tup, listD_lst, listD_tup, tupleD_lst, tupleD_tup, lstD_0, lstD_1, lstD_2, lstD_3, tupD_0, tupD_1, tupD_2, tupD_3, slRD_lst, slRD_tup, eN_rd, e]
      · have hlt : row.length - 1 < row.length := by omega
        refine ⟨min m1 row[row.length - 1], Nat.min_le_left _ _, fun u hu => by rw [List.getElem?_eq_getElem hlt] at hu; cases hu; exact Nat.min_le_right _ _, ?_⟩
        have e : eqD [eN row.length, .int 0] = some (.bl false) := by
          unfold eN; rw [eqD_int, decide_eq_false (by omega)]
        have s : subD [eN row.length, .int 1] = some (eN (row.length - 1)) := by
          unfold eN; rw [subD_int]; exact congrArg (fun z => some (D.int z)) (by omega)
        have x1 : ixD [.lst (row.map eN), eN (row.length - 1)] = some (eN row[row.length - 1]) := ixD_lst (by rw [List.getElem?_map, List.getElem?_eq_getElem hlt]; rfl)
        have x2 : min2D [eN m1, eN row[row.length - 1]] = some (eN (min m1 row[row.length - 1])) := by
          unfold eN; rw [min2D_int]; exact congrArg (fun z => some (D.int z)) (by split <;> omega)
        simp only [seqS_ap, contS_nx, contS_rt, contS_bk, contS_ct, nilS_ap, killS_ap, setS_ap, setC_so, dropS_ap, dropC_so, retS_ap, retC_so, retN_ap, bkS_ap, ctS_ap, ifS_ap, ifC_t, ifC_f, forS_ap, forC_so, asgS_ap, asgC_so, seqF_nil, seqF_cons, seqC_so, seqC2_so, odK_f, odK_al, odE_f, odE_al, opF_ap, opC_so, opC2_so, cF_ap, rd_ap, rdC_non, rdC_bl, rdC_int, rdC_str, rdC_tup, rdC_lst, rdC_dct, callF_ap, callC_so, callC2_so, wb_nil, wb_e, wb_k, tstF_ap, tstC_so, notF_ap, notC_so, andF_ap, andC_t, andC_f, orF_ap, orC_t, orC_f, ifF_ap, ifFC_t, ifFC_f, blF_ap, blC_so, andV_ap, andVC_t, andVC_f, orV_ap, orVC_t, orVC_f, notV_ap, notVC_so, truO_ap, truC_bl, truC_int, truC_lst, truC_tup, truC_non, fnF_ap, fnC_rt, fnC_nx, par2_ap, parC_so, parC2_so, par3_ap, par3C_so, par3C2_so, par3C3_so, tgN_ap, tgT2_ap, tgT3_ap, appF_ap, appC0_so, stS_ap, stC_so, stC1_so, yesF_ap, List.set_cons_zero, List.set_cons_succ, List.getElem?_cons_zero, List.getElem?_cons_succ, Option.map_some, Bool.not_true, Bool.not_false, Bool.false_eq_true, if_true, if_false, reduceCtorEq, addD_int, subD_int, ltD_int, leD_int, gtD_int, geD_int, min2D_int, max2D_int, negD_int, intD_int, intD_bl, eqD_int, neD_int, eqD_bl, neD_bl, lenD_lst, lenD_tup, listD_lst, listD_tup, tupleD_lst, tupleD_tup, lstD_0, lstD_1, lstD_2, lstD_3, tupD_0, tupD_1, tupD_2, tupD_3, slRD_lst, slRD_tup, eN_rd, e, s, x1, x2]
    obtain ⟨m2, hm2, hm2p, e2⟩ := f2
    obtain ⟨v, k2, c2, hv, e3⟩ := heap_draws ns k1 c1 m2 (by omega) (eN a) (eN b) (eN c) (.lst (rows.map eR)) (eN i) (.lst (row.map eN))
    refine ⟨(k2, c2, row ++ [v]), ?_, by simp [hl], R.snoc (by omega) (fun p hp u hu => by have := hm1p p hp u hu; omega) (fun u hu => by have := hm2p u hu; omega)⟩
    have ha := appC_so 7 (row.map eN) [St0 k2 c2, scr ns, eN a, eN b, eN c, .lst (rows.map eR), eN i, .lst (row.map eN), .und, eN m2] (eN v) (by rw [List.length_map, sizeLine_eq]; omega)
    rw [turn_N]
    unfold ulaw_heap_b1
    rw [seqS_ap, setS_ap]
    simp only [List.set_cons_zero, List.set_cons_succ]
    rw [e1, setC_so, contS_nx, seqS_ap, setS_ap]
    simp only [List.set_cons_zero, List.set_cons_succ]
    rw [e2, setC_so, contS_nx, killS_ap, seqS_ap, dropS_ap]
    simp only [List.set_cons_zero, List.set_cons_succ]
    rw [appF_ap]
    simp only [List.getElem?_cons_zero, List.getElem?_cons_succ]
    rw [appC0_so, e3, ha, dropC_so, contS_nx, killS_ap]
    simp only [List.set_cons_zero, List.set_cons_succ, nilS_ap, List.map_append, List.map_cons, List.map_nil]
theorem heap_ok (ns : List Int) (k cc : Int) (a b c : Nat) (ha : a ≤ 1000000) (hb : b ≤ 1000000) (hc : c < 1000000) : ∃ (h : Nat → Nat → Nat) (k' c' : Int), PlaneP a b c h ∧
    F_ulaw_heap [St0 k cc, scr ns, eN a, eN b, eN c] = some (dT a b h, [St0 k' c', scr ns, eN a, eN b, eN c]) := by
  have main := loop_rel (e := eN) (m := tgN 6) (s := ulaw_heap_b2) (σ := Int × Int × List (List Nat)) (fun q => [St0 q.1 q.2.1, scr ns, eN a, eN b, eN c, .lst (q.2.2.map eR), .und, .und, .und, .und])
    (fun pre q => q.2.2.length = pre.length ∧ (∀ r ∈ q.2.2, r.length = b) ∧ ∀ (i : Nat) (r : List Nat), q.2.2[i]? = some r → RowOk c (if i = 0 then none else q.2.2[i - 1]?) r) (List.range a) ?_ [] (List.range a) (k, cc, []) rfl ⟨rfl, fun r hr => by simp at hr, fun i r h => by simp at h⟩
  · obtain ⟨⟨k', c', rows⟩, h1, h2, h3, h4⟩ := main
    simp only at h1 h2 h3 h4
    rw [List.length_range] at h2
    have hd : D.tup (rows.map eR) = dT a b (fun i j => (rows.getD i []).getD j 0) := by
      unfold dT eR
      refine congrArg D.tup (List.ext_getElem (by simp [h2]) fun i q1 q2 => ?_)
      rw [List.length_map] at q1
      simp only [List.getElem_map, List.getElem_range]
      refine congrArg D.tup (List.ext_getElem (by simp [h3 _ (List.getElem_mem q1)]) fun j q3 q4 => ?_)
      rw [List.length_map] at q3
      simp only [List.getElem_map, List.getElem_range]
      rw [List.getD_eq_getElem?_getD, List.getD_eq_getElem?_getD, List.getElem?_eq_getElem q1, Option.getD_some, List.getElem?_eq_getElem q3, Option.getD_some]
    have get : ∀ i j, i < a → j < b → ∃ (r : List Nat) (v : Nat), rows[i]? = some r ∧ r[j]? = some v ∧ (rows.getD i []).getD j 0 = v := by
      intro i j hi hj
      have hi' : i < rows.length := by omega
      have hj' : j < rows[i].length := by rw [h3 _ (List.getElem_mem hi')]; exact hj
      refine ⟨rows[i], rows[i][j], List.getElem?_eq_getElem hi', List.getElem?_eq_getElem hj', ?_⟩
      rw [List.getD_eq_getElem?_getD, List.getD_eq_getElem?_getD, List.getElem?_eq_getElem hi', Option.getD_some, List.getElem?_eq_getElem hj', Option.getD_some]
    refine ⟨fun i j => (rows.getD i []).getD j 0, k', c', ⟨fun i j hi hj => ?_, fun i j hi hj => ?_, fun i j hi hj => ?_⟩, ?_⟩
    · obtain ⟨r, v, e1, e2, e3⟩ := get i j hi hj
      show (rows.getD i []).getD j 0 ≤ c
      rw [e3]; exact (h4 i r e1).le j v e2
    · obtain ⟨r, v, e1, e2, e3⟩ := get i j (by omega) hj
      obtain ⟨r', v', f1, f2, f3⟩ := get (i + 1) j hi hj
      show (rows.getD (i + 1) []).getD j 0 ≤ (rows.getD i []).getD j 0
      rw [e3, f3]
      exact (h4 (i + 1) r' f1).up r (by rw [if_neg (by omega)]; exact e1) j v' v f2 e2
    · obtain ⟨r, v, e1, e2, e3⟩ := get i j hi (by omega)
      obtain ⟨r', v', f1, f2, f3⟩ := get i (j + 1) hi hj
      show (rows.getD i []).getD (j + 1) 0 ≤ (rows.getD i []).getD j 0
      rw [e3, f3]
      rw [e1] at f1; cases f1
      exact (h4 i r e1).left j v v' e2 f2
    · refine fn_ofr (ρ0 := [St0 k cc, scr ns, eN a, eN b, eN c, .und, .und, .und, .und, .und]) (r := [St0 k' c', scr ns, eN a, eN b, eN c, .lst (rows.map eR), .und, .und, .und, .und]) rfl ?_ rfl
      have src : rng1 [odK 0 2] [St0 k cc, scr ns, eN a, eN b, eN c, .lst [], .und, .und, .und, .und] = some ((List.range a).map eN, [St0 k cc, scr ns, eN a, eN b, eN c, .lst [], .und, .und, .und, .und]) := rng1_of (by simp only [eN, seqS_ap, contS_nx, contS_rt, contS_bk, contS_ct, nilS_ap, killS_ap, setS_ap, setC_so, dropS_ap, dropC_so, retS_ap, retC_so, retN_ap, bkS_ap, ctS_ap, ifS_ap, ifC_t, ifC_f, forS_ap, forC_so, asgS_ap, asgC_so, seqF_nil, seqF_cons, seqC_so, seqC2_so, odK_f, odK_al, odE_f, odE_al, opF_ap, opC_so, opC2_so, cF_ap, rd_ap, rdC_non, rdC_bl, rdC_int, rdC_str, rdC_tup, rdC_lst, rdC_dct, callF_ap, callC_so, callC2_so, wb_nil, wb_e, wb_k, tstF_ap, tstC_so, notF_ap, notC_so, andF_ap, andC_t, andC_f, orF_ap, orC_t, orC_f, ifF_ap, ifFC_t, ifFC_f, blF_ap, blC_so, andV_ap, andVC_t, andVC_f, orV_ap, orVC_t, orVC_f, notV_ap, notVC_so, truO_ap, truC_bl, truC_int, truC_lst, truC_tup, truC_non, fnF_ap, fnC_rt, fnC_nx, par2_ap, parC_so, parC2_so, par3_ap, par3C_so, par3C2_so, par3C3_so, tgN_ap, tgT2_ap, tgT3_ap, appF_ap, appC0_so, stS_ap, stC_so, stC1_so, yesF_ap, List.set_cons_zero, List.set_cons_succ, List.getElem?_cons_zero, List.getElem?_cons_succ, Option.map_some, Bool.not_true, Bool.not_false, Bool.false_eq_true, if_true, if_false, reduceCtorEq, addD_int, subD_int, ltD_int, leD_int, gtD_int, geD_int, min2D_int, max2D_int, negD_int, intD_int, intD_bl, eqD_int, neD_int, eqD_bl, neD_bl, lenD_lst, lenD_tup, listD_lst, listD_tup, tupleD_lst, tupleD_tup, lstD_0, lstD_1, lstD_2, lstD_3, tupD_0, tupD_1, tupD_2, tupD_3, slRD_lst, slRD_tup]) (by omega)
      unfold S_ulaw_heap
      rw [← hd]
      rw [List.map_nil] at h1
      simp only [seqS_ap, contS_nx, contS_rt, contS_bk, contS_ct, nilS_ap, killS_ap, setS_ap, setC_so, dropS_ap, dropC_so, retS_ap, retC_so, retN_ap, bkS_ap, ctS_ap, ifS_ap, ifC_t, ifC_f, forS_ap, forC_so, asgS_ap, asgC_so, seqF_nil, seqF_cons, seqC_so, seqC2_so, odK_f, odK_al, odE_f, odE_al, opF_ap, opC_so, opC2_so, cF_ap, rd_ap, rdC_non, rdC_bl, rdC_int, rdC_str, rdC_tup, rdC_lst, rdC_dct, callF_ap, callC_so, callC2_so, wb_nil, wb_e, wb_k, tstF_ap, tstC_so, notF_ap, notC_so, andF_ap, andC_t, andC_f, orF_ap, orC_t, orC_f, ifF_ap, ifFC_t, ifFC_f, blF_ap, blC_so, andV_ap, andVC_t, andVC_f, orV_ap, orVC_t, orVC_f, notV_ap, notVC_so, truO_ap, truC_bl, truC_int, truC_lst, truC_tup, truC_non, fnF_ap, fnC_rt, fnC_nx, par2_ap, parC_so, parC2_so, par3_ap, par3C_so, par3C2_so, par3C3_so, tgN_ap, tgT2_ap, tgT3_ap, appF_ap, appC0_so, stS_ap, stC_so, stC1_so, yesF_ap, List.set_cons_zero, List.set_cons_succ, List.getElem?_cons_zero, List.getElem?_cons_succ, Option.map_some, Bool.not_true, Bool.not_false, Bool.false_eq_true, if_true, if_false, reduceCtorEq, addD_int, subD_int, ltD_int, leD_int, gtD_int, geD_int, min2D_int, max2D_int, negD_int, intD_int, intD_bl, eqD_int, neD_int, eqD_bl, neD_bl, lenD_lst, lenD_tup, listD_lst, listD_tup, tupleD_lst, tupleD_tup, lstD_0, lstD_1, lstD_2, lstD_3, tupD_0, tupD_1, tupD_2, tupD_3, slRD_lst, slRD_tup, src, h1]
  · rintro pre i post ⟨k1, c1, rows⟩ hp ⟨hl, hbl, R⟩
    obtain ⟨hi, hia⟩ := range_split hp
    simp only at hl hbl R ⊢
    rw [← hl] at hi
    obtain ⟨k2, c2, row, e1, e2, e3⟩ := heap_inner ns a b c i hb hc rows hi.symm hbl k1 c1 (fun r hr v hv => by
      obtain ⟨n, hn, rfl⟩ := List.getElem_of_mem hr
      obtain ⟨m, hm, rfl⟩ := List.getElem_of_mem hv
      exact (R n _ (List.getElem?_eq_getElem hn)).le m _ (List.getElem?_eq_getElem hm))
    refine ⟨(k2, c2, rows ++ [row]), ?_, by simp [hl], fun r hr => ?_, fun n r hn => ?_⟩
    · have src : rng1 [odK 0 3] [St0 k1 c1, scr ns, eN a, eN b, eN c, .lst (rows.map eR), eN i, .lst [], .und, .und] = some ((List.range b).map eN, [St0 k1 c1, scr ns, eN a, eN b, eN c, .lst (rows.map eR), eN i, .lst [], .und, .und]) := rng1_of (by simp only [eN, seqS_ap, contS_nx, contS_rt, contS_bk, contS_ct, nilS_ap, killS_ap, setS_ap, setC_so, dropS_ap, dropC_so, retS_ap, retC_so, retN_ap, bkS_ap, ctS_ap, ifS_ap, ifC_t, ifC_f, forS_ap, forC_so, asgS_ap, asgC_so, seqF_nil, seqF_cons, seqC_so, seqC2_so, odK_f, odK_al, odE_f, odE_al, opF_ap, opC_so, opC2_so, cF_ap, rd_ap, rdC_non, rdC_bl, rdC_int, rdC_str, rdC_tup, rdC_lst, rdC_dct, callF_ap, callC_so, callC2_so, wb_nil, wb_e, wb_k, tstF_ap, tstC_so, notF_ap, notC_so, andF_ap, andC_t, andC_f, orF_ap, orC_t, orC_f, ifF_ap, ifFC_t, ifFC_f, blF_ap, blC_so, andV_ap, andVC_t, andVC_f, orV_ap, orVC_t, orVC_f, notV_ap, notVC_so, truO_ap, truC_bl, truC_int, truC_lst, truC_tup, truC_non, fnF_ap, fnC_rt, fnC_nx, par2_ap, parC_so, parC2_so, par3_ap, par3C_so, par3C2_so, par3C3_so, tgN_ap, tgT2_ap, tgT3_ap, appF_ap, appC0_so, stS_ap, stC_so, stC1_so, yesF_ap, List.set_cons_zero, List.set_cons_succ, List.getElem?_cons_zero, List.getElem?_cons_succ, Option.map_some, Bool.not_true, Bool.not_false, Bool.false_eq_true, if_true, if_false, reduceCtorEq, addD_int, subD_int, ltD_int, leD_int, gtD_int, geD_int, min2D_int, max2D_int, negD_int, intD_int, intD_bl, eqD_int, neD_int, eqD_bl, neD_bl, lenD_lst, lenD_tup, listD_lst, listD_tup, tupleD_lst, tupleD_tup, lstD_0, lstD_1, lstD_2, lstD_3, tupD_0, tupD_1, tupD_2, tupD_3, slRD_lst, slRD_tup]) (by omega)
      have ha := appC_so 5 (rows.map eR) [St0 k2 c2, scr ns, eN a, eN b, eN c, .lst (rows.map eR), .und, .lst (row.map eN), .und, .und] (.tup (row.map eN)) (by rw [List.length_map, sizeLine_eq]; omega)
      rw [turn_N]
      unfold ulaw_heap_b2
      simp only [seqS_ap, contS_nx, contS_rt, contS_bk, contS_ct, nilS_ap, killS_ap, setS_ap, setC_so, dropS_ap, dropC_so, retS_ap, retC_so, retN_ap, bkS_ap, ctS_ap, ifS_ap, ifC_t, ifC_f, forS_ap, forC_so, asgS_ap, asgC_so, seqF_nil, seqF_cons, seqC_so, seqC2_so, odK_f, odK_al, odE_f, odE_al, opF_ap, opC_so, opC2_so, cF_ap, rd_ap, rdC_non, rdC_bl, rdC_int, rdC_str, rdC_tup, rdC_lst, rdC_dct, callF_ap, callC_so, callC2_so, wb_nil, wb_e, wb_k, tstF_ap, tstC_so, notF_ap, notC_so, andF_ap, andC_t, andC_f, orF_ap, orC_t, orC_f, ifF_ap, ifFC_t, ifFC_f, blF_ap, blC_so, andV_ap, andVC_t, andVC_f, orV_ap, orVC_t, orVC_f, notV_ap, notVC_so, truO_ap, truC_bl, truC_int, truC_lst, truC_tup, truC_non, fnF_ap, fnC_rt, fnC_nx, par2_ap, parC_so, parC2_so, par3_ap, par3C_so, par3C2_so, par3C3_so, tgN_ap, tgT2_ap, tgT3_ap, appF_ap, appC0_so, stS_ap, stC_so, stC1_so, yesF_ap, List.set_cons_zero, List.set_cons_succ, List.getElem?_cons_zero, List.getElem?_cons_succ, Option.map_some, Bool.not_true, Bool.not_false, Bool.false_eq_true, if_true, if_false, reduceCtorEq, addD_int, subD_int, ltD_int, leD_int, gtD_int, geD_int, min2D_int, max2D_int, negD_int, intD_int, intD_bl, eqD_int, neD_int, eqD_bl, neD_bl, lenD_lst, lenD_tup, listD_lst, listD_tup, tupleD_lst, tupleD_tup, lstD_0, lstD_1, lstD_2, lstD_3, tupD_0, tupD_1, tupD_2, tupD_3, slRD_lst, slRD_tup, src, e1, ha]
      simp only [seqS_ap, contS_nx, contS_rt, contS_bk, contS_ct, nilS_ap, killS_ap, setS_ap, setC_so, dropS_ap, dropC_so, retS_ap, retC_so, retN_ap, bkS_ap, ctS_ap, ifS_ap, ifC_t, ifC_f, forS_ap, forC_so, asgS_ap, asgC_so, seqF_nil, seqF_cons, seqC_so, seqC2_so, odK_f, odK_al, odE_f, odE_al, opF_ap, opC_so, opC2_so, cF_ap, rd_ap, rdC_non, rdC_bl, rdC_int, rdC_str, rdC_tup, rdC_lst, rdC_dct, callF_ap, callC_so, callC2_so, wb_nil, wb_e, wb_k, tstF_ap, tstC_so, notF_ap, notC_so, andF_ap, andC_t, andC_f, orF_ap, orC_t, orC_f, ifF_ap, ifFC_t, ifFC_f, blF_ap, blC_so, andV_ap, andVC_t, andVC_f, orV_ap, orVC_t, orVC_f, notV_ap, notVC_so, truO_ap, truC_bl, truC_int, truC_lst, truC_tup, truC_non, fnF_ap, fnC_rt, fnC_nx, par2_ap, parC_so, parC2_so, par3_ap, par3C_so, par3C2_so, par3C3_so, tgN_ap, tgT2_ap, tgT3_ap, appF_ap, appC0_so, stS_ap, stC_so, stC1_so, yesF_ap, List.set_cons_zero, List.set_cons_succ, List.getElem?_cons_zero, List.getElem?_cons_succ, Option.map_some, Bool.not_true, Bool.not_false, Bool.false_eq_true, if_true, if_false, reduceCtorEq, addD_int, subD_int, ltD_int, leD_int, gtD_int, geD_int, min2D_int, max2D_int, negD_int, intD_int, intD_bl, eqD_int, neD_int, eqD_bl, neD_bl, lenD_lst, lenD_tup, listD_lst, listD_tup, tupleD_lst, tupleD_tup, lstD_0, lstD_1, lstD_2, lstD_3, tupD_0, tupD_1, tupD_2, tupD_3, slRD_lst, slRD_tup, List.map_append, List.map_cons, List.map_nil, eR]
    · rcases List.mem_append.mp hr with h | h
      · exact hbl r h
      · rw [List.mem_singleton.mp h]; exact e2
    · by_cases hnl : n < rows.length
      · rw [List.getElem?_append_left hnl] at hn
        have := R n r hn
        have e : (if n = 0 then none else (rows ++ [row])[n - 1]?) = (if n = 0 then none else rows[n - 1]?) := by
          by_cases h0 : n = 0
          · rw [if_pos h0, if_pos h0]
          · rw [if_neg h0, if_neg h0, List.getElem?_append_left (by omega)]
        simp only [e]; exact this
      · have hn' : n = rows.length := by
          obtain ⟨hq, _⟩ := List.getElem?_eq_some_iff.mp hn
          simp at hq; omega
        subst hn'
        rw [List.getElem?_append_right (Nat.le_refl _), Nat.sub_self] at hn
        cases hn
        have e : (if rows.length = 0 then none else (rows ++ [row])[rows.length - 1]?) = (if i = 0 then none else rows[i - 1]?) := by
          rw [hi]
          by_cases h0 : rows.length = 0
          · rw [if_pos h0, if_pos h0]
          · rw [if_neg h0, if_neg h0, List.getElem?_append_left (by omega)]
        simp only [e]; exact e3
def boxL : List N3 := [(1, 1, 3), (1, 3, 2), (2, 1, 4), (2, 2, 2), (2, 2, 3), (3, 2, 2), (2, 3, 2), (3, 3, 1), (2, 2, 4), (3, 1, 3), (1, 4, 3), (3, 3, 2)]
theorem box_ok (ns : List Int) (k c : Int) : ∃ (t : N3) (k' c' : Int), t ∈ boxL ∧ F_ulaw_box [St0 k c, scr ns] = some (e3 t, [St0 k' c', scr ns]) := by
  obtain ⟨v, k', c', hv, e⟩ := drawN ns k c 12 (by omega) (by omega)
  have hl : v < boxL.length := hv
  refine ⟨boxL[v], k', c', List.getElem_mem hl, ?_⟩
  have hx : ixD [.lst (boxL.map e3), .int (v : Nat)] = some (e3 boxL[v]) := ixD_lst (by rw [List.getElem?_map, List.getElem?_eq_getElem hl]; rfl)
  have e' : F_ulaw_draw [St0 k c, scr ns, .int 12] = some (.int (v : Nat), [St0 k' c', scr ns, .int 12]) := e
  refine fn_ofr (ρ0 := [St0 k c, scr ns]) (r := [St0 k' c', scr ns]) rfl ?_ rfl
  have hL : ∀ ρ, opF lstD [odE [] 0 (opF tupD [odE [] 0 (cF (.int 1)), odE [] 0 (cF (.int 1)), odE [] 0 (cF (.int 3))]), odE [] 0 (opF tupD [odE [] 0 (cF (.int 1)), odE [] 0 (cF (.int 3)), odE [] 0 (cF (.int 2))]), odE [] 0 (opF tupD [odE [] 0 (cF (.int 2)), odE [] 0 (cF (.int 1)), odE [] 0 (cF (.int 4))]), odE [] 0 (opF tupD [odE [] 0 (cF (.int 2)), odE [] 0 (cF (.int 2)), odE [] 0 (cF (.int 2))]), odE [] 0 (opF tupD [odE [] 0 (cF (.int 2)), odE [] 0 (cF (.int 2)), odE [] 0 (cF (.int 3))]), odE [] 0 (opF tupD [odE [] 0 (cF (.int 3)), odE [] 0 (cF (.int 2)), odE [] 0 (cF (.int 2))]), odE [] 0 (opF tupD [odE [] 0 (cF (.int 2)), odE [] 0 (cF (.int 3)), odE [] 0 (cF (.int 2))]), odE [] 0 (opF tupD [odE [] 0 (cF (.int 3)), odE [] 0 (cF (.int 3)), odE [] 0 (cF (.int 1))]), odE [] 0 (opF tupD [odE [] 0 (cF (.int 2)), odE [] 0 (cF (.int 2)), odE [] 0 (cF (.int 4))]), odE [] 0 (opF tupD [odE [] 0 (cF (.int 3)), odE [] 0 (cF (.int 1)), odE [] 0 (cF (.int 3))]), odE [] 0 (opF tupD [odE [] 0 (cF (.int 1)), odE [] 0 (cF (.int 4)), odE [] 0 (cF (.int 3))]), odE [] 0 (opF tupD [odE [] 0 (cF (.int 3)), odE [] 0 (cF (.int 3)), odE [] 0 (cF (.int 2))])] ρ = some (.lst (boxL.map e3), ρ) := fun ρ => by
    kernel_rfl
  unfold S_ulaw_box
  rw [seqS_ap, retS_ap, opF_ap, seqF_cons, odE_f, hL, seqC_so]
  simp only [seqS_ap, contS_nx, contS_rt, contS_bk, contS_ct, nilS_ap, killS_ap, setS_ap, setC_so, dropS_ap, dropC_so, retS_ap, retC_so, retN_ap, bkS_ap, ctS_ap, ifS_ap, ifC_t, ifC_f, forS_ap, forC_so, asgS_ap, asgC_so, seqF_nil, seqF_cons, seqC_so, seqC2_so, odK_f, odK_al, odE_f, odE_al, opF_ap, opC_so, opC2_so, cF_ap, rd_ap, rdC_non, rdC_bl, rdC_int, rdC_str, rdC_tup, rdC_lst, rdC_dct, callF_ap, callC_so, callC2_so, wb_nil, wb_e, wb_k, tstF_ap, tstC_so, notF_ap, notC_so, andF_ap, andC_t, andC_f, orF_ap, orC_t, orC_f, ifF_ap, ifFC_t, ifFC_f, blF_ap, blC_so, andV_ap, andVC_t, andVC_f, orV_ap, orVC_t, orVC_f, notV_ap, notVC_so, truO_ap, truC_bl, truC_int, truC_lst, truC_tup, truC_non, fnF_ap, fnC_rt, fnC_nx, par2_ap, parC_so, parC2_so, par3_ap, par3C_so, par3C2_so, par3C3_so, tgN_ap, tgT2_ap, tgT3_ap, appF_ap, appC0_so, stS_ap, stC_so, stC1_so, yesF_ap, List.set_cons_zero, List.set_cons_succ, List.getElem?_cons_zero, List.getElem?_cons_succ, Option.map_some, Bool.not_true, Bool.not_false, Bool.false_eq_true, if_true, if_false, reduceCtorEq, addD_int, subD_int, ltD_int, leD_int, gtD_int, geD_int, min2D_int, max2D_int, negD_int, intD_int, intD_bl, eqD_int, neD_int, eqD_bl, neD_bl, lenD_lst, lenD_tup, listD_lst, listD_tup, tupleD_lst, tupleD_tup, lstD_0, lstD_1, lstD_2, lstD_3, tupD_0, tupD_1, tupD_2, tupD_3, slRD_lst, slRD_tup, e', hx]
end VS

set_option maxRecDepth 100000
set_option maxHeartbeats 0
namespace VS
namespace K85
open PySem PySem.Spec PyProof.Rows L2
abbrev bnames : List Str := ["all", "bool", "enumerate", "int", "isinstance", "len", "list", "min", "range", "reversed", "sorted", "str", "sum", "tuple"]
def topS (i : Nat) : Stmt := PySem.Challenge.pw_sumwright_k85_whole_moves_and_volumes.main.body.getD i (.Pass ⟨0, 0, 0, 0⟩)
abbrev s_cubes : Stmt := topS 1
theorem sc_cubes : FnScope N_cubes ["rows"] (defScope s_cubes) := ⟨rfl, rfl, rfl, by decide +kernel, rfl, by decide +kernel, by decide +kernel⟩
theorem ok_cubes {P : Program} {w : World} {K : PySem.W.Frag} {mg : Str → Option Value} {base : Heap} {fa : Addr} {fd : FuncData} (F : Fun K "cubes" "cubes" s_cubes fa fd) (hm : mg "cubes" = some (.ref fa)) (hb : Binds K fd ["rows"] []) (bn : ∀ x, x ∈ bnames → mg x = none)  : CalD P w K mg base 1 "cubes" (spD ⟨K, P, w⟩ [] [0] 0 F_cubes) := by
  have h : FnOk P w K mg base CX0 1 fa fd ["rows"] (spD ⟨K, P, w⟩ [] [0] 0 (fnF [] N_cubes.length S_cubes)) := by
    refine fn_ok (lv := 0) (N := N_cubes) (κ' := [0, 0, 0, 0, 0, 0, 0]) (κp := [0]) (κl := [0, 0, 0, 0, 0, 0]) (Φ := []) (s := S_cubes) F sc_cubes rfl rfl (zero_out (by decide)) (fun cdv A outer s0 H E hr => ?_)
    have hu := hr.units
    have nd := sc_cubes.nd
    exact vss_cons (κ1 := [0, 0, 0, 0, 0, 0, 0]) (s := setS 1 (opF lstD []))   (vs_set (i := 1) (T := []) (j := 0) (f := opF lstD []) (by decide) (by decide) nd rfl (by first | exact Or.inl rfl | exact Or.inr rfl) (ve_share (k := 1) (ve_lst (O_lst (by decide)) (va_nil))))   (vss_cons (κ1 := [0, 0, 0, 0, 0, 0, 0]) (s := forS (enumSrc (rd 0)) (tgT [tgN 2, tgN 3]) (cubes_b2))   (vs_for (T := []) (f := enumSrc (rd 0)) (m := tgT [tgN 2, tgN 3]) PassesOwn.never rfl (vi_enum (by rfl) (by exact bn "enumerate" (by decide)) (xv 0)) (vg_tup rfl (vgs_cons (κ1 := [0, 0, 0, 0, 0, 0, 0]) (vg_name (i := 2) (κ' := [0, 0, 0, 0, 0, 0, 0]) (by decide) (by decide) rfl nd rfl (by first | exact Or.inl rfl | exact Or.inr rfl)) (vgs_cons (κ1 := [0, 0, 0, 0, 0, 0, 0]) (vg_name (i := 3) (κ' := [0, 0, 0, 0, 0, 0, 0]) (by decide) (by decide) rfl nd rfl (by first | exact Or.inl rfl | exact Or.inr rfl)) (vgs_nil))))  (vss_cons (κ1 := [0, 0, 0, 0, 0, 0, 0]) (s := forS (enumSrc (rd 3)) (tgT [tgN 4, tgN 5]) (cubes_b1))   (vs_for (T := []) (f := enumSrc (rd 3)) (m := tgT [tgN 4, tgN 5]) PassesOwn.never rfl (vi_enum (by rfl) (by exact bn "enumerate" (by decide)) (xv 3)) (vg_tup rfl (vgs_cons (κ1 := [0, 0, 0, 0, 0, 0, 0]) (vg_name (i := 4) (κ' := [0, 0, 0, 0, 0, 0, 0]) (by decide) (by decide) rfl nd rfl (by first | exact Or.inl rfl | exact Or.inr rfl)) (vgs_cons (κ1 := [0, 0, 0, 0, 0, 0, 0]) (vg_name (i := 5) (κ' := [0, 0, 0, 0, 0, 0, 0]) (by decide) (by decide) rfl nd rfl (by first | exact Or.inl rfl | exact Or.inr rfl)) (vgs_nil))))  (vss_cons (κ1 := [0, 0, 0, 0, 0, 0, 0]) (s := setS 1 (opF addD [odK 0 1, odE [] 1 (cubes_c1)]))   (vs_set (i := 1) (T := []) (j := 0) (f := opF addD [odK 0 1, odE [] 1 (cubes_c1)]) (by decide) (by decide) nd rfl (by first | exact Or.inl rfl | exact Or.inr rfl) (ve_share (k := 1) (ve_bin op_addA (O_add (by decide) (by decide)) (xo 1) (vo_e (T := []) (k := 1) (f := cubes_c1) (ve_lc (κ := [0, 0, 0, 0, 0, 0, 0]) (T0 := []) (T1 := []) (T2 := []) (k := 0) (Φc := [0, 1, 2, 3, 4, 5]) [] [("z", 6)] (by decide) (by decide) (by decide) (by decide) (by decide) (by decide) rfl nd (vi_rng1 (by rfl) (by exact bn "range" (by decide)) (va_cons (xo 5) (va_nil) (by decide))) (blkOk_by (by kernel_rfl)) (fun s0 H0 C0 cl0 fp0 => vg_name (i := 6) (κ' := [0, 0, 0, 0, 0, 0, 0]) (by decide) (by decide) rfl nd rfl (by first | exact Or.inl rfl | exact Or.inr rfl)) (fun s0 H0 C0 cl0 fp0 => vts_nil) (fun s0 H0 C0 cl0 fp0 => ve_tup (O_tup (k := 0) (by decide)) (va_cons (vo_e (T := []) (k := 0) (f := rd 2) (xv 2)) (va_cons (vo_e (T := []) (k := 0) (f := rd 4) (xv 4)) (va_cons (vo_e (T := []) (k := 0) (f := rd 6) (xv 6)) (va_nil) (by decide)) (by decide)) (by decide))))) (by decide))))   (vss_kill 5 0 (by decide) (vss_kill 4 0 (by decide) (vss_nil)))))   (vss_kill 3 0 (by decide) (vss_kill 2 0 (by decide) (vss_nil)))))   (vss_cons (κ1 := [0, 0, 0, 0, 0, 0, 0]) (s := retS (opF (sortedD false) [odK 0 1]))   (vs_ret (T := []) (f := opF (sortedD false) [odK 0 1]) (ve_share (k := 1) (ve_callB (cr_sortA hu) (O_sorted (by decide)) (by rfl) (by exact bn "sorted" (by decide)) vb_sorted (va_cons (xo 1) (va_nil) (by decide)))))   (vss_nil)))
  exact ⟨fa, fd, _, h, hm, F.kp, hb⟩
abbrev s_from_cubes : Stmt := topS 2
theorem sc_from_cubes : FnScope N_from_cubes ["cells", "a", "b"] (defScope s_from_cubes) := ⟨rfl, rfl, rfl, by decide +kernel, rfl, by decide +kernel, by decide +kernel⟩
theorem ok_from_cubes {P : Program} {w : World} {K : PySem.W.Frag} {mg : Str → Option Value} {base : Heap} {fa : Addr} {fd : FuncData} (F : Fun K "from_cubes" "from_cubes" s_from_cubes fa fd) (hm : mg "from_cubes" = some (.ref fa)) (hb : Binds K fd ["cells", "a", "b"] []) (bn : ∀ x, x ∈ bnames → mg x = none)  : CalD P w K mg base 1 "from_cubes" (spD ⟨K, P, w⟩ [] [0, 0, 0] 0 F_from_cubes) := by
  have h : FnOk P w K mg base CX0 1 fa fd ["cells", "a", "b"] (spD ⟨K, P, w⟩ [] [0, 0, 0] 0 (fnF [] N_from_cubes.length S_from_cubes)) := by
    refine fn_ok (lv := 0) (N := N_from_cubes) (κ' := [0, 0, 0, 0, 0, 0, 0, 0]) (κp := [0, 0, 0]) (κl := [0, 0, 0, 0, 0]) (Φ := []) (s := S_from_cubes) F sc_from_cubes rfl rfl (zero_out (by decide)) (fun cdv A outer s0 H E hr => ?_)
    have hu := hr.units
    have nd := sc_from_cubes.nd
    exact vss_cons (κ1 := [0, 0, 0, 2, 0, 0, 0, 0]) (s := setS 3 (from_cubes_c1))   (vs_setLc (i := 3) (κ := [0, 0, 0, 0, 0, 0, 0, 0]) (T0 := []) (T1 := []) (T2 := []) (k := 1) (Φc := [0, 1, 2, 3, 4, 5, 7]) [] [("_", 6)] (by decide) (by decide) (by decide) (by decide) (by decide) (by decide) (by decide) (by decide) rfl nd rfl rfl (sw_true rfl rfl rfl (by decide +kernel)) (vi_rng1 (by rfl) (by exact bn "range" (by decide)) (va_cons (xo 1) (va_nil) (by decide))) (blkOk_by (by kernel_rfl)) (fun s0 H0 C0 cl0 fp0 => vg_name (i := 6) (κ' := [0, 0, 0, 0, 0, 0, 0, 0]) (by decide) (by decide) rfl nd rfl (by first | exact Or.inl rfl | exact Or.inr rfl)) (fun s0 H0 C0 cl0 fp0 => vts_nil) (fun s0 H0 C0 cl0 fp0 => ve_bin op_rep (O_mulL (by decide)) (vo_e (T := []) (k := 1) (f := opF lstD [odE [] 0 (cF (.int 0))]) (ve_lst (O_lst (by decide)) (va_cons (vo_e (T := []) (k := 0) (f := cF (.int 0)) (ve_int (k := 0))) (va_nil) (by decide)))) (xo 2) (by decide)))   (vss_cons (κ1 := [0, 0, 0, 2, 0, 0, 0, 0]) (s := forS (seqSrc (rd 0)) (tgT [tgN 4, tgN 5, tgN 6]) (from_cubes_b1))   (vs_for (T := []) (f := seqSrc (rd 0)) (m := tgT [tgN 4, tgN 5, tgN 6]) PassesOwn.never rfl (vi_seq (xv 0)) (vg_tup rfl (vgs_cons (κ1 := [0, 0, 0, 2, 0, 0, 0, 0]) (vg_name (i := 4) (κ' := [0, 0, 0, 2, 0, 0, 0, 0]) (by decide) (by decide) rfl nd rfl (by first | exact Or.inl rfl | exact Or.inr rfl)) (vgs_cons (κ1 := [0, 0, 0, 2, 0, 0, 0, 0]) (vg_name (i := 5) (κ' := [0, 0, 0, 2, 0, 0, 0, 0]) (by decide) (by decide) rfl nd rfl (by first | exact Or.inl rfl | exact Or.inr rfl)) (vgs_cons (κ1 := [0, 0, 0, 2, 0, 0, 0, 0]) (vg_name (i := 6) (κ' := [0, 0, 0, 2, 0, 0, 0, 0]) (by decide) (by decide) rfl nd rfl (by first | exact Or.inl rfl | exact Or.inr rfl)) (vgs_nil)))))  (vss_cons (κ1 := [0, 0, 0, 2, 0, 0, 0, 0]) (s := incS 3 4 5 1)   (vs_inc2 (t := 3) (a := 4) (b := 5) (by decide) rfl (by first | exact Or.inl rfl | exact Or.inr (Or.inl rfl) | exact Or.inr (Or.inr rfl)) rfl (by first | exact Or.inl rfl | exact Or.inr (Or.inl rfl) | exact Or.inr (Or.inr rfl)) rfl (by first | exact Or.inl rfl | exact Or.inr (Or.inl rfl) | exact Or.inr (Or.inr rfl)))   (vss_kill 6 0 (by decide) (vss_kill 4 0 (by decide) (vss_kill 5 0 (by decide) (vss_nil))))))   (vss_frz 3 (by decide) (vss_cons (κ1 := [0, 0, 0, 0, 0, 0, 0, 0]) (s := retS (opF tupleD [odE [] 1 (from_cubes_c2)]))   (vs_ret (T := []) (f := opF tupleD [odE [] 1 (from_cubes_c2)]) (ve_callTy call_tuple_of (O_tuple (k := 0) (by decide)) (by rfl) (by exact bn "tuple" (by decide)) vb_tuple (va_cons (vo_e (T := []) (k := 1) (f := from_cubes_c2) (ve_lc (κ := [0, 0, 0, 0, 0, 0, 0, 0]) (T0 := []) (T1 := []) (T2 := []) (k := 0) (Φc := [0, 1, 2, 3, 4, 5, 6]) [] [("row", 7)] (by decide) (by decide) (by decide) (by decide) (by decide) (by decide) rfl nd (vi_seq (xv 3)) (blkOk_by (by kernel_rfl)) (fun s0 H0 C0 cl0 fp0 => vg_name (i := 7) (κ' := [0, 0, 0, 0, 0, 0, 0, 0]) (by decide) (by decide) rfl nd rfl (by first | exact Or.inl rfl | exact Or.inr rfl)) (fun s0 H0 C0 cl0 fp0 => vts_nil) (fun s0 H0 C0 cl0 fp0 => ve_callTy call_tuple_of (O_tuple (k := 0) (by decide)) (by rfl) (by exact bn "tuple" (by decide)) vb_tuple (va_cons (xo 7) (va_nil) (by decide))))) (va_nil) (by decide))))   (vss_nil))))
  exact ⟨fa, fd, _, h, hm, F.kp, hb⟩
abbrev s_moved : Stmt := topS 3
theorem sc_moved : FnScope N_moved ["cells", "order"] (defScope s_moved) := ⟨rfl, rfl, rfl, by decide +kernel, rfl, by decide +kernel, by decide +kernel⟩
theorem ok_moved {P : Program} {w : World} {K : PySem.W.Frag} {mg : Str → Option Value} {base : Heap} {fa : Addr} {fd : FuncData} (F : Fun K "moved" "moved" s_moved fa fd) (hm : mg "moved" = some (.ref fa)) (hb : Binds K fd ["cells", "order"] []) (bn : ∀ x, x ∈ bnames → mg x = none)  : CalD P w K mg base 1 "moved" (spD ⟨K, P, w⟩ [] [0, 0] 0 F_moved) := by
  have h : FnOk P w K mg base CX0 1 fa fd ["cells", "order"] (spD ⟨K, P, w⟩ [] [0, 0] 0 (fnF [] N_moved.length S_moved)) := by
    refine fn_ok (lv := 0) (N := N_moved) (κ' := [0, 0, 0]) (κp := [0, 0]) (κl := [0]) (Φ := []) (s := S_moved) F sc_moved rfl rfl (zero_out (by decide)) (fun cdv A outer s0 H E hr => ?_)
    have hu := hr.units
    have nd := sc_moved.nd
    exact vss_cons (κ1 := [0, 0, 0]) (s := retS (opF (sortedD false) [odE [] 1 (moved_c1)]))   (vs_ret (T := []) (f := opF (sortedD false) [odE [] 1 (moved_c1)]) (ve_share (k := 1) (ve_callB (cr_sortA hu) (O_sorted (by decide)) (by rfl) (by exact bn "sorted" (by decide)) vb_sorted (va_cons (vo_e (T := []) (k := 1) (f := moved_c1) (ve_lc (κ := [0, 0, 0]) (T0 := []) (T1 := []) (T2 := []) (k := 0) (Φc := [0, 1]) [] [("cell", 2)] (by decide) (by decide) (by decide) (by decide) (by decide) (by decide) rfl nd (vi_seq (xv 0)) (blkOk_by (by kernel_rfl)) (fun s0 H0 C0 cl0 fp0 => vg_name (i := 2) (κ' := [0, 0, 0]) (by decide) (by decide) rfl nd rfl (by first | exact Or.inl rfl | exact Or.inr rfl)) (fun s0 H0 C0 cl0 fp0 => vts_nil) (fun s0 H0 C0 cl0 fp0 => ve_tup (O_tup (k := 0) (by decide)) (va_cons (vo_e (T := []) (k := 0) (f := opF ixD [odK 0 2, odE [] 0 (opF ixD [odK 0 1, odE [] 0 (cF (.int 0))])]) (ve_ix ix_seq (O_ix (by decide)) (xo 2) (vo_e (T := []) (k := 0) (f := opF ixD [odK 0 1, odE [] 0 (cF (.int 0))]) (ve_ix ix_seq (O_ix (by decide)) (xo 1) (vo_e (T := []) (k := 0) (f := cF (.int 0)) (ve_int (k := 0))) (by decide))) (by decide))) (va_cons (vo_e (T := []) (k := 0) (f := opF ixD [odK 0 2, odE [] 0 (opF ixD [odK 0 1, odE [] 0 (cF (.int 1))])]) (ve_ix ix_seq (O_ix (by decide)) (xo 2) (vo_e (T := []) (k := 0) (f := opF ixD [odK 0 1, odE [] 0 (cF (.int 1))]) (ve_ix ix_seq (O_ix (by decide)) (xo 1) (vo_e (T := []) (k := 0) (f := cF (.int 1)) (ve_int (k := 0))) (by decide))) (by decide))) (va_cons (vo_e (T := []) (k := 0) (f := opF ixD [odK 0 2, odE [] 0 (opF ixD [odK 0 1, odE [] 0 (cF (.int 2))])]) (ve_ix ix_seq (O_ix (by decide)) (xo 2) (vo_e (T := []) (k := 0) (f := opF ixD [odK 0 1, odE [] 0 (cF (.int 2))]) (ve_ix ix_seq (O_ix (by decide)) (xo 1) (vo_e (T := []) (k := 0) (f := cF (.int 2)) (ve_int (k := 0))) (by decide))) (by decide))) (va_nil) (by decide)) (by decide)) (by decide))))) (va_nil) (by decide)))))   (vss_nil)
  exact ⟨fa, fd, _, h, hm, F.kp, hb⟩
abbrev s_swapped : Stmt := topS 4
theorem sc_swapped : FnScope N_swapped ["rows"] (defScope s_swapped) := ⟨rfl, rfl, rfl, by decide +kernel, rfl, by decide +kernel, by decide +kernel⟩
theorem ok_swapped {P : Program} {w : World} {K : PySem.W.Frag} {mg : Str → Option Value} {base : Heap} {fa : Addr} {fd : FuncData} (F : Fun K "swapped" "swapped" s_swapped fa fd) (hm : mg "swapped" = some (.ref fa)) (hb : Binds K fd ["rows"] []) (bn : ∀ x, x ∈ bnames → mg x = none)  : CalD P w K mg base 1 "swapped" (spD ⟨K, P, w⟩ [] [0] 0 F_swapped) := by
  have h : FnOk P w K mg base CX0 1 fa fd ["rows"] (spD ⟨K, P, w⟩ [] [0] 0 (fnF [] N_swapped.length S_swapped)) := by
    refine fn_ok (lv := 0) (N := N_swapped) (κ' := [0, 0, 0]) (κp := [0]) (κl := [0, 0]) (Φ := []) (s := S_swapped) F sc_swapped rfl rfl (zero_out (by decide)) (fun cdv A outer s0 H E hr => ?_)
    have hu := hr.units
    have nd := sc_swapped.nd
    exact vss_cons (κ1 := [0, 0, 0]) (s := retS (opF tupleD [odE [] 1 (swapped_c2)]))   (vs_ret (T := []) (f := opF tupleD [odE [] 1 (swapped_c2)]) (ve_callTy call_tuple_of (O_tuple (k := 0) (by decide)) (by rfl) (by exact bn "tuple" (by decide)) vb_tuple (va_cons (vo_e (T := []) (k := 1) (f := swapped_c2) (ve_lc (κ := [0, 0, 0]) (T0 := []) (T1 := []) (T2 := []) (k := 0) (Φc := [0, 2]) [] [("at", 1)] (by decide) (by decide) (by decide) (by decide) (by decide) (by decide) rfl nd (vi_rng1 (by rfl) (by exact bn "range" (by decide)) (va_cons (vo_e (T := []) (k := 0) (f := opF lenD [odE [] 0 (opF ixD [odK 0 0, odE [] 0 (cF (.int 0))])]) (ve_callB call_len (O_len (k := 0)) (by rfl) (by exact bn "len" (by decide)) vb_len (va_cons (vo_e (T := []) (k := 0) (f := opF ixD [odK 0 0, odE [] 0 (cF (.int 0))]) (ve_ix ix_seq (O_ix (by decide)) (xo 0) (vo_e (T := []) (k := 0) (f := cF (.int 0)) (ve_int (k := 0))) (by decide))) (va_nil) (by decide)))) (va_nil) (by decide))) (blkOk_by (by kernel_rfl)) (fun s0 H0 C0 cl0 fp0 => vg_name (i := 1) (κ' := [0, 0, 0]) (by decide) (by decide) rfl nd rfl (by first | exact Or.inl rfl | exact Or.inr rfl)) (fun s0 H0 C0 cl0 fp0 => vts_nil) (fun s0 H0 C0 cl0 fp0 => ve_callTy call_tuple_of (O_tuple (k := 0) (by decide)) (by rfl) (by exact bn "tuple" (by decide)) vb_tuple (va_cons (vo_e (T := []) (k := 1) (f := swapped_c1) (ve_lc (κ := [0, 0, 0]) (T0 := []) (T1 := []) (T2 := []) (k := 0) (Φc := [0, 1]) [] [("row", 2)] (by decide) (by decide) (by decide) (by decide) (by decide) (by decide) rfl nd (vi_seq (xv 0)) (blkOk_by (by kernel_rfl)) (fun s0 H0 C0 cl0 fp0 => vg_name (i := 2) (κ' := [0, 0, 0]) (by decide) (by decide) rfl nd rfl (by first | exact Or.inl rfl | exact Or.inr rfl)) (fun s0 H0 C0 cl0 fp0 => vts_nil) (fun s0 H0 C0 cl0 fp0 => ve_ix ix_seq (O_ix (by decide)) (xo 2) (xo 1) (by decide)))) (va_nil) (by decide))))) (va_nil) (by decide))))   (vss_nil)
  exact ⟨fa, fd, _, h, hm, F.kp, hb⟩
abbrev s_rolled : Stmt := topS 5
theorem sc_rolled : FnScope N_rolled ["rows", "c"] (defScope s_rolled) := ⟨rfl, rfl, rfl, by decide +kernel, rfl, by decide +kernel, by decide +kernel⟩
theorem ok_rolled {P : Program} {w : World} {K : PySem.W.Frag} {mg : Str → Option Value} {base : Heap} {fa : Addr} {fd : FuncData} (F : Fun K "rolled" "rolled" s_rolled fa fd) (hm : mg "rolled" = some (.ref fa)) (hb : Binds K fd ["rows", "c"] []) (bn : ∀ x, x ∈ bnames → mg x = none) (C_cubes : CalD P w K mg base 1 "cubes" (spD ⟨K, P, w⟩ [] [0] 0 F_cubes)) (C_moved : CalD P w K mg base 1 "moved" (spD ⟨K, P, w⟩ [] [0, 0] 0 F_moved)) (C_from_cubes : CalD P w K mg base 1 "from_cubes" (spD ⟨K, P, w⟩ [] [0, 0, 0] 0 F_from_cubes)) : CalD P w K mg base 2 "rolled" (spD ⟨K, P, w⟩ [] [0, 0] 0 F_rolled) := by
  have h : FnOk P w K mg base CX0 2 fa fd ["rows", "c"] (spD ⟨K, P, w⟩ [] [0, 0] 0 (fnF [] N_rolled.length S_rolled)) := by
    refine fn_ok (lv := 1) (N := N_rolled) (κ' := [0, 0]) (κp := [0, 0]) (κl := []) (Φ := []) (s := S_rolled) F sc_rolled rfl rfl (zero_out (by decide)) (fun cdv A outer s0 H E hr => ?_)
    have hu := hr.units
    have nd := sc_rolled.nd
    exact vss_cons (κ1 := [0, 0]) (s := retS (callF [odE [] 0 (callF [odE [] 0 (callF [odE [] 0 (rd 0)] F_cubes), odE [] 0 (opF tupD [odE [] 0 (cF (.int 2)), odE [] 0 (cF (.int 0)), odE [] 0 (cF (.int 1))])] F_moved), odE [] 0 (rd 1), odE [] 0 (opF lenD [odK 0 0])] F_from_cubes))   (vs_ret (T := []) (f := callF [odE [] 0 (callF [odE [] 0 (callF [odE [] 0 (rd 0)] F_cubes), odE [] 0 (opF tupD [odE [] 0 (cF (.int 2)), odE [] 0 (cF (.int 0)), odE [] 0 (cF (.int 1))])] F_moved), odE [] 0 (rd 1), odE [] 0 (opF lenD [odK 0 0])] F_from_cubes) (ve_fn (k := 0) (fn := F_from_cubes) (C_from_cubes.mono (by decide)) hr (va_cons (vo_e (T := []) (k := 0) (f := callF [odE [] 0 (callF [odE [] 0 (rd 0)] F_cubes), odE [] 0 (opF tupD [odE [] 0 (cF (.int 2)), odE [] 0 (cF (.int 0)), odE [] 0 (cF (.int 1))])] F_moved) (ve_fn (k := 0) (fn := F_moved) (C_moved.mono (by decide)) hr (va_cons (vo_e (T := []) (k := 0) (f := callF [odE [] 0 (rd 0)] F_cubes) (ve_fn (k := 0) (fn := F_cubes) (C_cubes.mono (by decide)) hr (va_cons (vo_e (T := []) (k := 0) (f := rd 0) (xv 0)) (va_nil) (by decide)))) (va_cons (vo_e (T := []) (k := 0) (f := opF tupD [odE [] 0 (cF (.int 2)), odE [] 0 (cF (.int 0)), odE [] 0 (cF (.int 1))]) (ve_tup (O_tup (k := 0) (by decide)) (va_cons (vo_e (T := []) (k := 0) (f := cF (.int 2)) (ve_int (k := 0))) (va_cons (vo_e (T := []) (k := 0) (f := cF (.int 0)) (ve_int (k := 0))) (va_cons (vo_e (T := []) (k := 0) (f := cF (.int 1)) (ve_int (k := 0))) (va_nil) (by decide)) (by decide)) (by decide)))) (va_nil) (by decide)) (by decide)))) (va_cons (vo_e (T := []) (k := 0) (f := rd 1) (xv 1)) (va_cons (vo_e (T := []) (k := 0) (f := opF lenD [odK 0 0]) (ve_callB call_len (O_len (k := 0)) (by rfl) (by exact bn "len" (by decide)) vb_len (va_cons (xo 0) (va_nil) (by decide)))) (va_nil) (by decide)) (by decide)) (by decide))))   (vss_nil)
  exact ⟨fa, fd, _, h, hm, F.kp, hb⟩
abbrev s_filled_up : Stmt := topS 6
theorem sc_filled_up : FnScope N_filled_up ["rows", "c"] (defScope s_filled_up) := ⟨rfl, rfl, rfl, by decide +kernel, rfl, by decide +kernel, by decide +kernel⟩
theorem ok_filled_up {P : Program} {w : World} {K : PySem.W.Frag} {mg : Str → Option Value} {base : Heap} {fa : Addr} {fd : FuncData} (F : Fun K "filled_up" "filled_up" s_filled_up fa fd) (hm : mg "filled_up" = some (.ref fa)) (hb : Binds K fd ["rows", "c"] []) (bn : ∀ x, x ∈ bnames → mg x = none)  : CalD P w K mg base 1 "filled_up" (spD ⟨K, P, w⟩ [] [0, 0] 0 F_filled_up) := by
  have h : FnOk P w K mg base CX0 1 fa fd ["rows", "c"] (spD ⟨K, P, w⟩ [] [0, 0] 0 (fnF [] N_filled_up.length S_filled_up)) := by
    refine fn_ok (lv := 0) (N := N_filled_up) (κ' := [0, 0, 0, 0]) (κp := [0, 0]) (κl := [0, 0]) (Φ := []) (s := S_filled_up) F sc_filled_up rfl rfl (zero_out (by decide)) (fun cdv A outer s0 H E hr => ?_)
    have hu := hr.units
    have nd := sc_filled_up.nd
    exact vss_cons (κ1 := [0, 0, 0, 0]) (s := retS (opF tupleD [odE [] 1 (filled_up_c2)]))   (vs_ret (T := []) (f := opF tupleD [odE [] 1 (filled_up_c2)]) (ve_callTy call_tuple_of (O_tuple (k := 0) (by decide)) (by rfl) (by exact bn "tuple" (by decide)) vb_tuple (va_cons (vo_e (T := []) (k := 1) (f := filled_up_c2) (ve_lc (κ := [0, 0, 0, 0]) (T0 := []) (T1 := []) (T2 := []) (k := 0) (Φc := [0, 1, 3]) [] [("row", 2)] (by decide) (by decide) (by decide) (by decide) (by decide) (by decide) rfl nd (vi_rev (by rfl) (by exact bn "reversed" (by decide)) (xv 0)) (blkOk_by (by kernel_rfl)) (fun s0 H0 C0 cl0 fp0 => vg_name (i := 2) (κ' := [0, 0, 0, 0]) (by decide) (by decide) rfl nd rfl (by first | exact Or.inl rfl | exact Or.inr rfl)) (fun s0 H0 C0 cl0 fp0 => vts_nil) (fun s0 H0 C0 cl0 fp0 => ve_callTy call_tuple_of (O_tuple (k := 0) (by decide)) (by rfl) (by exact bn "tuple" (by decide)) vb_tuple (va_cons (vo_e (T := []) (k := 1) (f := filled_up_c1) (ve_lc (κ := [0, 0, 0, 0]) (T0 := []) (T1 := []) (T2 := []) (k := 0) (Φc := [0, 1, 2]) [] [("entry", 3)] (by decide) (by decide) (by decide) (by decide) (by decide) (by decide) rfl nd (vi_rev (by rfl) (by exact bn "reversed" (by decide)) (xv 2)) (blkOk_by (by kernel_rfl)) (fun s0 H0 C0 cl0 fp0 => vg_name (i := 3) (κ' := [0, 0, 0, 0]) (by decide) (by decide) rfl nd rfl (by first | exact Or.inl rfl | exact Or.inr rfl)) (fun s0 H0 C0 cl0 fp0 => vts_nil) (fun s0 H0 C0 cl0 fp0 => ve_bin op_sub (O_sub (k := 0)) (xo 1) (xo 3) (by decide)))) (va_nil) (by decide))))) (va_nil) (by decide))))   (vss_nil)
  exact ⟨fa, fd, _, h, hm, F.kp, hb⟩
abbrev s_volume : Stmt := topS 7
theorem sc_volume : FnScope N_volume ["rows"] (defScope s_volume) := ⟨rfl, rfl, rfl, by decide +kernel, rfl, by decide +kernel, by decide +kernel⟩
theorem ok_volume {P : Program} {w : World} {K : PySem.W.Frag} {mg : Str → Option Value} {base : Heap} {fa : Addr} {fd : FuncData} (F : Fun K "volume" "volume" s_volume fa fd) (hm : mg "volume" = some (.ref fa)) (hb : Binds K fd ["rows"] []) (bn : ∀ x, x ∈ bnames → mg x = none)  : CalD P w K mg base 1 "volume" (spD ⟨K, P, w⟩ [] [0] 0 F_volume) := by
  have h : FnOk P w K mg base CX0 1 fa fd ["rows"] (spD ⟨K, P, w⟩ [] [0] 0 (fnF [] N_volume.length S_volume)) := by
    refine fn_ok (lv := 0) (N := N_volume) (κ' := [0, 0]) (κp := [0]) (κl := [0]) (Φ := []) (s := S_volume) F sc_volume rfl rfl (zero_out (by decide)) (fun cdv A outer s0 H E hr => ?_)
    have hu := hr.units
    have nd := sc_volume.nd
    exact vss_cons (κ1 := [0, 0]) (s := retS (opF sumD [odE [] 1 (volume_c1)]))   (vs_ret (T := []) (f := opF sumD [odE [] 1 (volume_c1)]) (ve_callB (cr_sumA rfl) (O_sum (k := 0) (by decide)) (by rfl) (by exact bn "sum" (by decide)) vb_sum (va_cons (vo_e (T := []) (k := 1) (f := volume_c1) (ve_lc (κ := [0, 0]) (T0 := []) (T1 := []) (T2 := []) (k := 0) (Φc := [0]) [] [("row", 1)] (by decide) (by decide) (by decide) (by decide) (by decide) (by decide) rfl nd (vi_seq (xv 0)) (blkOk_by (by kernel_rfl)) (fun s0 H0 C0 cl0 fp0 => vg_name (i := 1) (κ' := [0, 0]) (by decide) (by decide) rfl nd rfl (by first | exact Or.inl rfl | exact Or.inr rfl)) (fun s0 H0 C0 cl0 fp0 => vts_nil) (fun s0 H0 C0 cl0 fp0 => ve_callB (cr_sumA rfl) (O_sum (k := 0) (by decide)) (by rfl) (by exact bn "sum" (by decide)) vb_sum (va_cons (xo 1) (va_nil) (by decide))))) (va_nil) (by decide))))   (vss_nil)
  exact ⟨fa, fd, _, h, hm, F.kp, hb⟩
abbrev s_times_less : Stmt := topS 9
abbrev N_times_less : List Str := ["row", "k", "told", "at", "number"]
theorem sc_times_less : FnScope N_times_less ["row", "k"] (defScope s_times_less) := ⟨rfl, rfl, rfl, by decide +kernel, rfl, by decide +kernel, by decide +kernel⟩
def times_less_b1 : SemS := seqS (stS 2 (opF subD [odE [] 0 (opF ixD [odK 1 2, odE [] 1 (opF addD [odK 0 3, odK 0 1])]), odK 0 4]) (opF addD [odK 0 3, odK 0 1])) (killS 3 (killS 4 (nilS)))
def S_times_less : SemS := seqS (setS 2 (opF addD [odK 0 0, odE [] 1 (opF mulLD [odE [] 1 (opF lstD [odE [] 0 (cF (.int 0))]), odK 0 1])])) (seqS (forS (enumSrc (rd 0)) (tgT [tgN 3, tgN 4]) (times_less_b1)) (seqS (retS (rd 2)) (nilS)))
def F_times_less : Sem0 := fnF [] N_times_less.length S_times_less
theorem ok_times_less {P : Program} {w : World} {K : PySem.W.Frag} {mg : Str → Option Value} {base : Heap} {fa : Addr} {fd : FuncData} (F : Fun K "times_less" "times_less" s_times_less fa fd) (hm : mg "times_less" = some (.ref fa)) (hb : Binds K fd ["row", "k"] []) (bn : ∀ x, x ∈ bnames → mg x = none)  : CalD P w K mg base 1 "times_less" (spD ⟨K, P, w⟩ [] [0, 0] 0 F_times_less) := by
  have h : FnOk P w K mg base CX0 1 fa fd ["row", "k"] (spD ⟨K, P, w⟩ [] [0, 0] 0 (fnF [] N_times_less.length S_times_less)) := by
    refine fn_ok (lv := 0) (N := N_times_less) (κ' := [0, 0, 0, 0, 0]) (κp := [0, 0]) (κl := [0, 0, 0]) (Φ := []) (s := S_times_less) F sc_times_less rfl rfl (zero_out (by decide)) (fun cdv A outer s0 H E hr => ?_)
    have hu := hr.units
    have nd := sc_times_less.nd
    exact vss_cons (κ1 := [0, 0, 1, 0, 0]) (s := setS 2 (opF addD [odK 0 0, odE [] 1 (opF mulLD [odE [] 1 (opF lstD [odE [] 0 (cF (.int 0))]), odK 0 1])]))   (vs_set (i := 2) (T := []) (j := 1) (f := opF addD [odK 0 0, odE [] 1 (opF mulLD [odE [] 1 (opF lstD [odE [] 0 (cF (.int 0))]), odK 0 1])]) (by decide) (by decide) nd rfl (by first | exact Or.inl rfl | exact Or.inr rfl) (ve_bin op_addA (O_add (by decide) (by decide)) (xo 0) (vo_e (T := []) (k := 1) (f := opF mulLD [odE [] 1 (opF lstD [odE [] 0 (cF (.int 0))]), odK 0 1]) (ve_bin op_rep (O_mulL (by decide)) (vo_e (T := []) (k := 1) (f := opF lstD [odE [] 0 (cF (.int 0))]) (ve_lst (O_lst (by decide)) (va_cons (vo_e (T := []) (k := 0) (f := cF (.int 0)) (ve_int (k := 0))) (va_nil) (by decide)))) (xo 1) (by decide))) (by decide)))   (vss_cons (κ1 := [0, 0, 1, 0, 0]) (s := forS (enumSrc (rd 0)) (tgT [tgN 3, tgN 4]) (times_less_b1))   (vs_for (T := []) (f := enumSrc (rd 0)) (m := tgT [tgN 3, tgN 4]) PassesOwn.never rfl (vi_enum (by rfl) (by exact bn "enumerate" (by decide)) (xv 0)) (vg_tup rfl (vgs_cons (κ1 := [0, 0, 1, 0, 0]) (vg_name (i := 3) (κ' := [0, 0, 1, 0, 0]) (by decide) (by decide) rfl nd rfl (by first | exact Or.inl rfl | exact Or.inr rfl)) (vgs_cons (κ1 := [0, 0, 1, 0, 0]) (vg_name (i := 4) (κ' := [0, 0, 1, 0, 0]) (by decide) (by decide) rfl nd rfl (by first | exact Or.inl rfl | exact Or.inr rfl)) (vgs_nil))))  (vss_cons (κ1 := [0, 0, 1, 0, 0]) (s := stS 2 (opF subD [odE [] 0 (opF ixD [odK 1 2, odE [] 1 (opF addD [odK 0 3, odK 0 1])]), odK 0 4]) (opF addD [odK 0 3, odK 0 1]))   (vs_setIx (i := 2) (T := []) (U := []) (f := opF subD [odE [] 0 (opF ixD [odK 1 2, odE [] 1 (opF addD [odK 0 3, odK 0 1])]), odK 0 4]) (g := opF addD [odK 0 3, odK 0 1]) (by decide) (by decide) rfl (by first | exact Or.inl rfl | exact Or.inr (Or.inl rfl) | exact Or.inr (Or.inr rfl)) (ve_bin op_sub (O_sub (k := 0)) (vo_e (T := []) (k := 0) (f := opF ixD [odK 1 2, odE [] 1 (opF addD [odK 0 3, odK 0 1])]) (ve_ix ix_seq (O_ix (by decide)) (xo 2) (vo_e (T := []) (k := 1) (f := opF addD [odK 0 3, odK 0 1]) (ve_bin op_addA (O_add (by decide) (by decide)) (xo 3) (xo 1) (by decide))) (by decide))) (xo 4) (by decide)) (ve_share (k := 1) (ve_bin op_addA (O_add (by decide) (by decide)) (xo 3) (xo 1) (by decide))))   (vss_kill 3 0 (by decide) (vss_kill 4 0 (by decide) (vss_nil)))))   (vss_frz 2 (by decide) (vss_cons (κ1 := [0, 0, 0, 0, 0]) (s := retS (rd 2))   (vs_ret (T := []) (f := rd 2) (xv 2))   (vss_nil))))
  exact ⟨fa, fd, _, h, hm, F.kp, hb⟩
abbrev s_by_less : Stmt := topS 10
abbrev N_by_less : List Str := ["row", "k", "told", "at"]
theorem sc_by_less : FnScope N_by_less ["row", "k"] (defScope s_by_less) := ⟨rfl, rfl, rfl, by decide +kernel, rfl, by decide +kernel, by decide +kernel⟩
def by_less_b1 : SemS := seqS (stS 2 (opF addD [odE [] 0 (opF ixD [odK 1 2, odK 0 3]), odE [] 0 (opF ixD [odK 1 2, odE [] 0 (opF subD [odK 0 3, odK 0 1])])]) (rd 3)) (killS 3 (nilS))
def S_by_less : SemS := seqS (setS 2 (opF listD [odK 0 0])) (seqS (forS (rng2 [odK 0 1, odE [] 0 (opF lenD [odK 1 2])]) (tgN 3) (by_less_b1)) (seqS (retS (opF slHD [odK 1 2, odE [] 0 (opF subD [odE [] 0 (opF lenD [odK 1 2]), odK 0 1])])) (nilS)))
def F_by_less : Sem0 := fnF [] N_by_less.length S_by_less
theorem ok_by_less {P : Program} {w : World} {K : PySem.W.Frag} {mg : Str → Option Value} {base : Heap} {fa : Addr} {fd : FuncData} (F : Fun K "by_less" "by_less" s_by_less fa fd) (hm : mg "by_less" = some (.ref fa)) (hb : Binds K fd ["row", "k"] []) (bn : ∀ x, x ∈ bnames → mg x = none)  : CalD P w K mg base 1 "by_less" (spD ⟨K, P, w⟩ [] [0, 0] 0 F_by_less) := by
  have h : FnOk P w K mg base CX0 1 fa fd ["row", "k"] (spD ⟨K, P, w⟩ [] [0, 0] 0 (fnF [] N_by_less.length S_by_less)) := by
    refine fn_ok (lv := 0) (N := N_by_less) (κ' := [0, 0, 1, 0]) (κp := [0, 0]) (κl := [0, 0]) (Φ := []) (s := S_by_less) F sc_by_less rfl rfl (zero_out (by decide)) (fun cdv A outer s0 H E hr => ?_)
    have hu := hr.units
    have nd := sc_by_less.nd
    exact vss_cons (κ1 := [0, 0, 1, 0]) (s := setS 2 (opF listD [odK 0 0]))   (vs_set (i := 2) (T := []) (j := 1) (f := opF listD [odK 0 0]) (by decide) (by decide) nd rfl (by first | exact Or.inl rfl | exact Or.inr rfl) (ve_callTy call_list_of (O_list (by decide)) (by rfl) (by exact bn "list" (by decide)) vb_list (va_cons (xo 0) (va_nil) (by decide))))   (vss_cons (κ1 := [0, 0, 1, 0]) (s := forS (rng2 [odK 0 1, odE [] 0 (opF lenD [odK 1 2])]) (tgN 3) (by_less_b1))   (vs_for (T := []) (f := rng2 [odK 0 1, odE [] 0 (opF lenD [odK 1 2])]) (m := tgN 3) PassesOwn.never rfl (vi_rng2 (by rfl) (by exact bn "range" (by decide)) (va_cons (xo 1) (va_cons (vo_e (T := []) (k := 0) (f := opF lenD [odK 1 2]) (ve_callB call_len (O_len (k := 0)) (by rfl) (by exact bn "len" (by decide)) vb_len (va_cons (xo 2) (va_nil) (by decide)))) (va_nil) (by decide)) (by decide))) (vg_name (i := 3) (κ' := [0, 0, 1, 0]) (by decide) (by decide) rfl nd rfl (by first | exact Or.inl rfl | exact Or.inr rfl))  (vss_cons (κ1 := [0, 0, 1, 0]) (s := stS 2 (opF addD [odE [] 0 (opF ixD [odK 1 2, odK 0 3]), odE [] 0 (opF ixD [odK 1 2, odE [] 0 (opF subD [odK 0 3, odK 0 1])])]) (rd 3))   (vs_setIx (i := 2) (T := []) (U := []) (f := opF addD [odE [] 0 (opF ixD [odK 1 2, odK 0 3]), odE [] 0 (opF ixD [odK 1 2, odE [] 0 (opF subD [odK 0 3, odK 0 1])])]) (g := rd 3) (by decide) (by decide) rfl (by first | exact Or.inl rfl | exact Or.inr (Or.inl rfl) | exact Or.inr (Or.inr rfl)) (ve_share (k := 1) (ve_bin op_addA (O_add (by decide) (by decide)) (vo_e (T := []) (k := 0) (f := opF ixD [odK 1 2, odK 0 3]) (ve_ix ix_seq (O_ix (by decide)) (xo 2) (xo 3) (by decide))) (vo_e (T := []) (k := 0) (f := opF ixD [odK 1 2, odE [] 0 (opF subD [odK 0 3, odK 0 1])]) (ve_ix ix_seq (O_ix (by decide)) (xo 2) (vo_e (T := []) (k := 0) (f := opF subD [odK 0 3, odK 0 1]) (ve_bin op_sub (O_sub (k := 0)) (xo 3) (xo 1) (by decide))) (by decide))) (by decide))) (xv 3))   (vss_kill 3 0 (by decide) (vss_nil))))   (vss_cons (κ1 := [0, 0, 1, 0]) (s := retS (opF slHD [odK 1 2, odE [] 0 (opF subD [odE [] 0 (opF lenD [odK 1 2]), odK 0 1])]))   (vs_ret (T := []) (f := opF slHD [odK 1 2, odE [] 0 (opF subD [odE [] 0 (opF lenD [odK 1 2]), odK 0 1])]) (ve_share (k := 1) (ve_slH sl_any (O_slH (by decide)) (xo 2) (vo_e (T := []) (k := 0) (f := opF subD [odE [] 0 (opF lenD [odK 1 2]), odK 0 1]) (ve_bin op_sub (O_sub (k := 0)) (vo_e (T := []) (k := 0) (f := opF lenD [odK 1 2]) (ve_callB call_len (O_len (k := 0)) (by rfl) (by exact bn "len" (by decide)) vb_len (va_cons (xo 2) (va_nil) (by decide)))) (xo 1) (by decide))) (by decide))))   (vss_nil)))
  exact ⟨fa, fd, _, h, hm, F.kp, hb⟩
abbrev s_volume_counts : Stmt := topS 8
abbrev N_volume_counts : List Str := ["a", "b", "c", "told", "x", "y"]
theorem sc_volume_counts : FnScope N_volume_counts ["a", "b", "c"] (defScope s_volume_counts) := ⟨rfl, rfl, rfl, by decide +kernel, rfl, by decide +kernel, by decide +kernel⟩
def volume_counts_b1 : SemS := seqS (setS 3 (callF [odE [] 0 (rd 3), odE [] 0 (opF subD [odE [] 1 (opF addD [odE [] 1 (opF addD [odK 0 4, odK 0 5]), odK 0 2]), odE [] 0 (cF (.int 1))])] F_times_less)) (killS 5 (nilS))
def volume_counts_b2 : SemS := seqS (forS (rng2 [odE [] 0 (cF (.int 1)), odE [] 1 (opF addD [odK 0 1, odE [] 0 (cF (.int 1))])]) (tgN 5) (volume_counts_b1)) (killS 4 (nilS))
def volume_counts_b3 : SemS := seqS (setS 3 (callF [odE [] 0 (rd 3), odE [] 0 (opF subD [odE [] 1 (opF addD [odK 0 4, odK 0 5]), odE [] 0 (cF (.int 1))])] F_by_less)) (killS 5 (nilS))
def volume_counts_b4 : SemS := seqS (forS (rng2 [odE [] 0 (cF (.int 1)), odE [] 1 (opF addD [odK 0 1, odE [] 0 (cF (.int 1))])]) (tgN 5) (volume_counts_b3)) (killS 4 (nilS))
def S_volume_counts : SemS := seqS (setS 3 (opF lstD [odE [] 0 (cF (.int 1))])) (seqS (forS (rng2 [odE [] 0 (cF (.int 1)), odE [] 1 (opF addD [odK 0 0, odE [] 0 (cF (.int 1))])]) (tgN 4) (volume_counts_b2)) (seqS (forS (rng2 [odE [] 0 (cF (.int 1)), odE [] 1 (opF addD [odK 0 0, odE [] 0 (cF (.int 1))])]) (tgN 4) (volume_counts_b4)) (seqS (retS (rd 3)) (nilS))))
def F_volume_counts : Sem0 := fnF [] N_volume_counts.length S_volume_counts
theorem ok_volume_counts {P : Program} {w : World} {K : PySem.W.Frag} {mg : Str → Option Value} {base : Heap} {fa : Addr} {fd : FuncData} (F : Fun K "volume_counts" "volume_counts" s_volume_counts fa fd) (hm : mg "volume_counts" = some (.ref fa)) (hb : Binds K fd ["a", "b", "c"] []) (bn : ∀ x, x ∈ bnames → mg x = none) (C_times_less : CalD P w K mg base 1 "times_less" (spD ⟨K, P, w⟩ [] [0, 0] 0 F_times_less)) (C_by_less : CalD P w K mg base 1 "by_less" (spD ⟨K, P, w⟩ [] [0, 0] 0 F_by_less)) : CalD P w K mg base 2 "volume_counts" (spD ⟨K, P, w⟩ [] [0, 0, 0] 0 F_volume_counts) := by
  have h : FnOk P w K mg base CX0 2 fa fd ["a", "b", "c"] (spD ⟨K, P, w⟩ [] [0, 0, 0] 0 (fnF [] N_volume_counts.length S_volume_counts)) := by
    refine fn_ok (lv := 1) (N := N_volume_counts) (κ' := [0, 0, 0, 0, 0, 0]) (κp := [0, 0, 0]) (κl := [0, 0, 0]) (Φ := []) (s := S_volume_counts) F sc_volume_counts rfl rfl (zero_out (by decide)) (fun cdv A outer s0 H E hr => ?_)
    have hu := hr.units
    have nd := sc_volume_counts.nd
    exact vss_cons (κ1 := [0, 0, 0, 0, 0, 0]) (s := setS 3 (opF lstD [odE [] 0 (cF (.int 1))]))   (vs_set (i := 3) (T := []) (j := 0) (f := opF lstD [odE [] 0 (cF (.int 1))]) (by decide) (by decide) nd rfl (by first | exact Or.inl rfl | exact Or.inr rfl) (ve_share (k := 1) (ve_lst (O_lst (by decide)) (va_cons (vo_e (T := []) (k := 0) (f := cF (.int 1)) (ve_int (k := 0))) (va_nil) (by decide)))))   (vss_cons (κ1 := [0, 0, 0, 0, 0, 0]) (s := forS (rng2 [odE [] 0 (cF (.int 1)), odE [] 1 (opF addD [odK 0 0, odE [] 0 (cF (.int 1))])]) (tgN 4) (volume_counts_b2))   (vs_for (T := []) (f := rng2 [odE [] 0 (cF (.int 1)), odE [] 1 (opF addD [odK 0 0, odE [] 0 (cF (.int 1))])]) (m := tgN 4) PassesOwn.never rfl (vi_rng2 (by rfl) (by exact bn "range" (by decide)) (va_cons (vo_e (T := []) (k := 0) (f := cF (.int 1)) (ve_int (k := 0))) (va_cons (vo_e (T := []) (k := 1) (f := opF addD [odK 0 0, odE [] 0 (cF (.int 1))]) (ve_bin op_addA (O_add (by decide) (by decide)) (xo 0) (vo_e (T := []) (k := 0) (f := cF (.int 1)) (ve_int (k := 0))) (by decide))) (va_nil) (by decide)) (by decide))) (vg_name (i := 4) (κ' := [0, 0, 0, 0, 0, 0]) (by decide) (by decide) rfl nd rfl (by first | exact Or.inl rfl | exact Or.inr rfl))  (vss_cons (κ1 := [0, 0, 0, 0, 0, 0]) (s := forS (rng2 [odE [] 0 (cF (.int 1)), odE [] 1 (opF addD [odK 0 1, odE [] 0 (cF (.int 1))])]) (tgN 5) (volume_counts_b1))   (vs_for (T := []) (f := rng2 [odE [] 0 (cF (.int 1)), odE [] 1 (opF addD [odK 0 1, odE [] 0 (cF (.int 1))])]) (m := tgN 5) PassesOwn.never rfl (vi_rng2 (by rfl) (by exact bn "range" (by decide)) (va_cons (vo_e (T := []) (k := 0) (f := cF (.int 1)) (ve_int (k := 0))) (va_cons (vo_e (T := []) (k := 1) (f := opF addD [odK 0 1, odE [] 0 (cF (.int 1))]) (ve_bin op_addA (O_add (by decide) (by decide)) (xo 1) (vo_e (T := []) (k := 0) (f := cF (.int 1)) (ve_int (k := 0))) (by decide))) (va_nil) (by decide)) (by decide))) (vg_name (i := 5) (κ' := [0, 0, 0, 0, 0, 0]) (by decide) (by decide) rfl nd rfl (by first | exact Or.inl rfl | exact Or.inr rfl))  (vss_cons (κ1 := [0, 0, 0, 0, 0, 0]) (s := setS 3 (callF [odE [] 0 (rd 3), odE [] 0 (opF subD [odE [] 1 (opF addD [odE [] 1 (opF addD [odK 0 4, odK 0 5]), odK 0 2]), odE [] 0 (cF (.int 1))])] F_times_less))   (vs_set (i := 3) (T := []) (j := 0) (f := callF [odE [] 0 (rd 3), odE [] 0 (opF subD [odE [] 1 (opF addD [odE [] 1 (opF addD [odK 0 4, odK 0 5]), odK 0 2]), odE [] 0 (cF (.int 1))])] F_times_less) (by decide) (by decide) nd rfl (by first | exact Or.inl rfl | exact Or.inr rfl) (ve_fn (k := 0) (fn := F_times_less) (C_times_less.mono (by decide)) hr (va_cons (vo_e (T := []) (k := 0) (f := rd 3) (xv 3)) (va_cons (vo_e (T := []) (k := 0) (f := opF subD [odE [] 1 (opF addD [odE [] 1 (opF addD [odK 0 4, odK 0 5]), odK 0 2]), odE [] 0 (cF (.int 1))]) (ve_bin op_sub (O_sub (k := 0)) (vo_e (T := []) (k := 1) (f := opF addD [odE [] 1 (opF addD [odK 0 4, odK 0 5]), odK 0 2]) (ve_bin op_addA (O_add (by decide) (by decide)) (vo_e (T := []) (k := 1) (f := opF addD [odK 0 4, odK 0 5]) (ve_bin op_addA (O_add (by decide) (by decide)) (xo 4) (xo 5) (by decide))) (xo 2) (by decide))) (vo_e (T := []) (k := 0) (f := cF (.int 1)) (ve_int (k := 0))) (by decide))) (va_nil) (by decide)) (by decide))))   (vss_kill 5 0 (by decide) (vss_nil))))   (vss_kill 4 0 (by decide) (vss_nil))))   (vss_cons (κ1 := [0, 0, 0, 0, 0, 0]) (s := forS (rng2 [odE [] 0 (cF (.int 1)), odE [] 1 (opF addD [odK 0 0, odE [] 0 (cF (.int 1))])]) (tgN 4) (volume_counts_b4))   (vs_for (T := []) (f := rng2 [odE [] 0 (cF (.int 1)), odE [] 1 (opF addD [odK 0 0, odE [] 0 (cF (.int 1))])]) (m := tgN 4) PassesOwn.never rfl (vi_rng2 (by rfl) (by exact bn "range" (by decide)) (va_cons (vo_e (T := []) (k := 0) (f := cF (.int 1)) (ve_int (k := 0))) (va_cons (vo_e (T := []) (k := 1) (f := opF addD [odK 0 0, odE [] 0 (cF (.int 1))]) (ve_bin op_addA (O_add (by decide) (by decide)) (xo 0) (vo_e (T := []) (k := 0) (f := cF (.int 1)) (ve_int (k := 0))) (by decide))) (va_nil) (by decide)) (by decide))) (vg_name (i := 4) (κ' := [0, 0, 0, 0, 0, 0]) (by decide) (by decide) rfl nd rfl (by first | exact Or.inl rfl | exact Or.inr rfl))  (vss_cons (κ1 := [0, 0, 0, 0, 0, 0]) (s := forS (rng2 [odE [] 0 (cF (.int 1)), odE [] 1 (opF addD [odK 0 1, odE [] 0 (cF (.int 1))])]) (tgN 5) (volume_counts_b3))   (vs_for (T := []) (f := rng2 [odE [] 0 (cF (.int 1)), odE [] 1 (opF addD [odK 0 1, odE [] 0 (cF (.int 1))])]) (m := tgN 5) PassesOwn.never rfl (vi_rng2 (by rfl) (by exact bn "range" (by decide)) (va_cons (vo_e (T := []) (k := 0) (f := cF (.int 1)) (ve_int (k := 0))) (va_cons (vo_e (T := []) (k := 1) (f := opF addD [odK 0 1, odE [] 0 (cF (.int 1))]) (ve_bin op_addA (O_add (by decide) (by decide)) (xo 1) (vo_e (T := []) (k := 0) (f := cF (.int 1)) (ve_int (k := 0))) (by decide))) (va_nil) (by decide)) (by decide))) (vg_name (i := 5) (κ' := [0, 0, 0, 0, 0, 0]) (by decide) (by decide) rfl nd rfl (by first | exact Or.inl rfl | exact Or.inr rfl))  (vss_cons (κ1 := [0, 0, 0, 0, 0, 0]) (s := setS 3 (callF [odE [] 0 (rd 3), odE [] 0 (opF subD [odE [] 1 (opF addD [odK 0 4, odK 0 5]), odE [] 0 (cF (.int 1))])] F_by_less))   (vs_set (i := 3) (T := []) (j := 0) (f := callF [odE [] 0 (rd 3), odE [] 0 (opF subD [odE [] 1 (opF addD [odK 0 4, odK 0 5]), odE [] 0 (cF (.int 1))])] F_by_less) (by decide) (by decide) nd rfl (by first | exact Or.inl rfl | exact Or.inr rfl) (ve_fn (k := 0) (fn := F_by_less) (C_by_less.mono (by decide)) hr (va_cons (vo_e (T := []) (k := 0) (f := rd 3) (xv 3)) (va_cons (vo_e (T := []) (k := 0) (f := opF subD [odE [] 1 (opF addD [odK 0 4, odK 0 5]), odE [] 0 (cF (.int 1))]) (ve_bin op_sub (O_sub (k := 0)) (vo_e (T := []) (k := 1) (f := opF addD [odK 0 4, odK 0 5]) (ve_bin op_addA (O_add (by decide) (by decide)) (xo 4) (xo 5) (by decide))) (vo_e (T := []) (k := 0) (f := cF (.int 1)) (ve_int (k := 0))) (by decide))) (va_nil) (by decide)) (by decide))))   (vss_kill 5 0 (by decide) (vss_nil))))   (vss_kill 4 0 (by decide) (vss_nil))))   (vss_cons (κ1 := [0, 0, 0, 0, 0, 0]) (s := retS (rd 3))   (vs_ret (T := []) (f := rd 3) (xv 3))   (vss_nil))))
  exact ⟨fa, fd, _, h, hm, F.kp, hb⟩
abbrev s_all_counts : Stmt := topS 11
abbrev N_all_counts : List Str := ["most", "told", "k", "_", "at"]
theorem sc_all_counts : FnScope N_all_counts ["most"] (defScope s_all_counts) := ⟨rfl, rfl, rfl, by decide +kernel, rfl, by decide +kernel, by decide +kernel⟩
def all_counts_b1 : SemS := seqS (stS 1 (opF addD [odE [] 0 (opF ixD [odK 1 1, odK 0 4]), odE [] 0 (opF ixD [odK 1 1, odE [] 0 (opF subD [odK 0 4, odK 0 2])])]) (rd 4)) (killS 4 (nilS))
def all_counts_b2 : SemS := seqS (forS (rng2 [odK 0 2, odE [] 1 (opF addD [odK 0 0, odE [] 0 (cF (.int 1))])]) (tgN 4) (all_counts_b1)) (killS 3 (nilS))
def all_counts_b3 : SemS := seqS (forS (rng1 [odK 0 2]) (tgN 3) (all_counts_b2)) (killS 2 (nilS))
def S_all_counts : SemS := seqS (setS 1 (opF addD [odE [] 1 (opF lstD [odE [] 0 (cF (.int 1))]), odE [] 1 (opF mulLD [odE [] 1 (opF lstD [odE [] 0 (cF (.int 0))]), odK 0 0])])) (seqS (forS (rng2 [odE [] 0 (cF (.int 1)), odE [] 1 (opF addD [odK 0 0, odE [] 0 (cF (.int 1))])]) (tgN 2) (all_counts_b3)) (seqS (retS (rd 1)) (nilS)))
def F_all_counts : Sem0 := fnF [] N_all_counts.length S_all_counts
theorem ok_all_counts {P : Program} {w : World} {K : PySem.W.Frag} {mg : Str → Option Value} {base : Heap} {fa : Addr} {fd : FuncData} (F : Fun K "all_counts" "all_counts" s_all_counts fa fd) (hm : mg "all_counts" = some (.ref fa)) (hb : Binds K fd ["most"] []) (bn : ∀ x, x ∈ bnames → mg x = none)  : CalD P w K mg base 1 "all_counts" (spD ⟨K, P, w⟩ [] [0] 0 F_all_counts) := by
  have h : FnOk P w K mg base CX0 1 fa fd ["most"] (spD ⟨K, P, w⟩ [] [0] 0 (fnF [] N_all_counts.length S_all_counts)) := by
    refine fn_ok (lv := 0) (N := N_all_counts) (κ' := [0, 0, 0, 0, 0]) (κp := [0]) (κl := [0, 0, 0, 0]) (Φ := []) (s := S_all_counts) F sc_all_counts rfl rfl (zero_out (by decide)) (fun cdv A outer s0 H E hr => ?_)
    have hu := hr.units
    have nd := sc_all_counts.nd
    exact vss_cons (κ1 := [0, 1, 0, 0, 0]) (s := setS 1 (opF addD [odE [] 1 (opF lstD [odE [] 0 (cF (.int 1))]), odE [] 1 (opF mulLD [odE [] 1 (opF lstD [odE [] 0 (cF (.int 0))]), odK 0 0])]))   (vs_set (i := 1) (T := []) (j := 1) (f := opF addD [odE [] 1 (opF lstD [odE [] 0 (cF (.int 1))]), odE [] 1 (opF mulLD [odE [] 1 (opF lstD [odE [] 0 (cF (.int 0))]), odK 0 0])]) (by decide) (by decide) nd rfl (by first | exact Or.inl rfl | exact Or.inr rfl) (ve_bin op_addA (O_add (by decide) (by decide)) (vo_e (T := []) (k := 1) (f := opF lstD [odE [] 0 (cF (.int 1))]) (ve_lst (O_lst (by decide)) (va_cons (vo_e (T := []) (k := 0) (f := cF (.int 1)) (ve_int (k := 0))) (va_nil) (by decide)))) (vo_e (T := []) (k := 1) (f := opF mulLD [odE [] 1 (opF lstD [odE [] 0 (cF (.int 0))]), odK 0 0]) (ve_bin op_rep (O_mulL (by decide)) (vo_e (T := []) (k := 1) (f := opF lstD [odE [] 0 (cF (.int 0))]) (ve_lst (O_lst (by decide)) (va_cons (vo_e (T := []) (k := 0) (f := cF (.int 0)) (ve_int (k := 0))) (va_nil) (by decide)))) (xo 0) (by decide))) (by decide)))   (vss_cons (κ1 := [0, 1, 0, 0, 0]) (s := forS (rng2 [odE [] 0 (cF (.int 1)), odE [] 1 (opF addD [odK 0 0, odE [] 0 (cF (.int 1))])]) (tgN 2) (all_counts_b3))   (vs_for (T := []) (f := rng2 [odE [] 0 (cF (.int 1)), odE [] 1 (opF addD [odK 0 0, odE [] 0 (cF (.int 1))])]) (m := tgN 2) PassesOwn.never rfl (vi_rng2 (by rfl) (by exact bn "range" (by decide)) (va_cons (vo_e (T := []) (k := 0) (f := cF (.int 1)) (ve_int (k := 0))) (va_cons (vo_e (T := []) (k := 1) (f := opF addD [odK 0 0, odE [] 0 (cF (.int 1))]) (ve_bin op_addA (O_add (by decide) (by decide)) (xo 0) (vo_e (T := []) (k := 0) (f := cF (.int 1)) (ve_int (k := 0))) (by decide))) (va_nil) (by decide)) (by decide))) (vg_name (i := 2) (κ' := [0, 1, 0, 0, 0]) (by decide) (by decide) rfl nd rfl (by first | exact Or.inl rfl | exact Or.inr rfl))  (vss_cons (κ1 := [0, 1, 0, 0, 0]) (s := forS (rng1 [odK 0 2]) (tgN 3) (all_counts_b2))   (vs_for (T := []) (f := rng1 [odK 0 2]) (m := tgN 3) PassesOwn.never rfl (vi_rng1 (by rfl) (by exact bn "range" (by decide)) (va_cons (xo 2) (va_nil) (by decide))) (vg_name (i := 3) (κ' := [0, 1, 0, 0, 0]) (by decide) (by decide) rfl nd rfl (by first | exact Or.inl rfl | exact Or.inr rfl))  (vss_cons (κ1 := [0, 1, 0, 0, 0]) (s := forS (rng2 [odK 0 2, odE [] 1 (opF addD [odK 0 0, odE [] 0 (cF (.int 1))])]) (tgN 4) (all_counts_b1))   (vs_for (T := []) (f := rng2 [odK 0 2, odE [] 1 (opF addD [odK 0 0, odE [] 0 (cF (.int 1))])]) (m := tgN 4) PassesOwn.never rfl (vi_rng2 (by rfl) (by exact bn "range" (by decide)) (va_cons (xo 2) (va_cons (vo_e (T := []) (k := 1) (f := opF addD [odK 0 0, odE [] 0 (cF (.int 1))]) (ve_bin op_addA (O_add (by decide) (by decide)) (xo 0) (vo_e (T := []) (k := 0) (f := cF (.int 1)) (ve_int (k := 0))) (by decide))) (va_nil) (by decide)) (by decide))) (vg_name (i := 4) (κ' := [0, 1, 0, 0, 0]) (by decide) (by decide) rfl nd rfl (by first | exact Or.inl rfl | exact Or.inr rfl))  (vss_cons (κ1 := [0, 1, 0, 0, 0]) (s := stS 1 (opF addD [odE [] 0 (opF ixD [odK 1 1, odK 0 4]), odE [] 0 (opF ixD [odK 1 1, odE [] 0 (opF subD [odK 0 4, odK 0 2])])]) (rd 4))   (vs_setIx (i := 1) (T := []) (U := []) (f := opF addD [odE [] 0 (opF ixD [odK 1 1, odK 0 4]), odE [] 0 (opF ixD [odK 1 1, odE [] 0 (opF subD [odK 0 4, odK 0 2])])]) (g := rd 4) (by decide) (by decide) rfl (by first | exact Or.inl rfl | exact Or.inr (Or.inl rfl) | exact Or.inr (Or.inr rfl)) (ve_share (k := 1) (ve_bin op_addA (O_add (by decide) (by decide)) (vo_e (T := []) (k := 0) (f := opF ixD [odK 1 1, odK 0 4]) (ve_ix ix_seq (O_ix (by decide)) (xo 1) (xo 4) (by decide))) (vo_e (T := []) (k := 0) (f := opF ixD [odK 1 1, odE [] 0 (opF subD [odK 0 4, odK 0 2])]) (ve_ix ix_seq (O_ix (by decide)) (xo 1) (vo_e (T := []) (k := 0) (f := opF subD [odK 0 4, odK 0 2]) (ve_bin op_sub (O_sub (k := 0)) (xo 4) (xo 2) (by decide))) (by decide))) (by decide))) (xv 4))   (vss_kill 4 0 (by decide) (vss_nil))))   (vss_kill 3 0 (by decide) (vss_nil))))   (vss_kill 2 0 (by decide) (vss_nil))))   (vss_frz 1 (by decide) (vss_cons (κ1 := [0, 0, 0, 0, 0]) (s := retS (rd 1))   (vs_ret (T := []) (f := rd 1) (xv 1))   (vss_nil))))
  exact ⟨fa, fd, _, h, hm, F.kp, hb⟩
abbrev s_ulaw_refill : Stmt := topS 13
theorem sc_ulaw_refill : FnScope N_ulaw_refill ["script", "k"] (defScope s_ulaw_refill) := ⟨rfl, rfl, rfl, by decide +kernel, rfl, by decide +kernel, by decide +kernel⟩
theorem ok_ulaw_refill {P : Program} {w : World} {K : PySem.W.Frag} {mg : Str → Option Value} {base : Heap} {fa : Addr} {fd : FuncData} (F : Fun K "_law_refill" "_law_refill" s_ulaw_refill fa fd) (hm : mg "_law_refill" = some (.ref fa)) (hb : Binds K fd ["script", "k"] []) (bn : ∀ x, x ∈ bnames → mg x = none)  : CalD P w K mg base 1 "_law_refill" (spD ⟨K, P, w⟩ [] [0, 0] 0 F_ulaw_refill) := by
  have h : FnOk P w K mg base CX0 1 fa fd ["script", "k"] (spD ⟨K, P, w⟩ [] [0, 0] 0 (fnF [] N_ulaw_refill.length S_ulaw_refill)) := by
    refine fn_ok (lv := 0) (N := N_ulaw_refill) (κ' := [0, 0, 0]) (κp := [0, 0]) (κl := [0]) (Φ := []) (s := S_ulaw_refill) F sc_ulaw_refill rfl rfl (zero_out (by decide)) (fun cdv A outer s0 H E hr => ?_)
    have hu := hr.units
    have nd := sc_ulaw_refill.nd
    exact vss_cons (κ1 := [0, 0, 0]) (s := setS 2 (cF (.int 0)))   (vs_set (i := 2) (T := []) (j := 0) (f := cF (.int 0)) (by decide) (by decide) nd rfl (by first | exact Or.inl rfl | exact Or.inr rfl) (ve_int (k := 0)))   (vss_cons (κ1 := [0, 0, 0]) (s := ifS (truO (odK 0 0)) (seqS (setS 2 (opF ixD [odK 0 0, odE [] 0 (opF modD [odK 0 1, odE [] 0 (opF lenD [odK 0 0])])])) (nilS)) (nilS))   (vs_if (T := []) (t := truO (odK 0 0)) (vt_tru (xo 0))  (vss_cons (κ1 := [0, 0, 0]) (s := setS 2 (opF ixD [odK 0 0, odE [] 0 (opF modD [odK 0 1, odE [] 0 (opF lenD [odK 0 0])])]))   (vs_set (i := 2) (T := []) (j := 0) (f := opF ixD [odK 0 0, odE [] 0 (opF modD [odK 0 1, odE [] 0 (opF lenD [odK 0 0])])]) (by decide) (by decide) nd rfl (by first | exact Or.inl rfl | exact Or.inr rfl) (ve_ix ix_seq (O_ix (by decide)) (xo 0) (vo_e (T := []) (k := 0) (f := opF modD [odK 0 1, odE [] 0 (opF lenD [odK 0 0])]) (ve_bin op_mod (O_mod (k := 0)) (xo 1) (vo_e (T := []) (k := 0) (f := opF lenD [odK 0 0]) (ve_callB call_len (O_len (k := 0)) (by rfl) (by exact bn "len" (by decide)) vb_len (va_cons (xo 0) (va_nil) (by decide)))) (by decide))) (by decide)))   (vss_nil))  (vss_nil))   (vss_cons (κ1 := [0, 0, 0]) (s := ifS (tstF (opF ltD [odK 0 2, odE [] 0 (cF (.int 0))])) (seqS (setS 2 (opF subD [odE [] 0 (cF (.int 1)), odE [] 0 (opF mulD [odE [] 0 (cF (.int 2)), odK 0 2])])) (nilS)) (nilS))   (vs_if (T := []) (t := tstF (opF ltD [odK 0 2, odE [] 0 (cF (.int 0))])) (vt_cmp op_lt (O_lt ) (xo 2) (vo_e (T := []) (k := 0) (f := cF (.int 0)) (ve_int (k := 0))) (by decide))  (vss_cons (κ1 := [0, 0, 0]) (s := setS 2 (opF subD [odE [] 0 (cF (.int 1)), odE [] 0 (opF mulD [odE [] 0 (cF (.int 2)), odK 0 2])]))   (vs_set (i := 2) (T := []) (j := 0) (f := opF subD [odE [] 0 (cF (.int 1)), odE [] 0 (opF mulD [odE [] 0 (cF (.int 2)), odK 0 2])]) (by decide) (by decide) nd rfl (by first | exact Or.inl rfl | exact Or.inr rfl) (ve_bin op_sub (O_sub (k := 0)) (vo_e (T := []) (k := 0) (f := cF (.int 1)) (ve_int (k := 0))) (vo_e (T := []) (k := 0) (f := opF mulD [odE [] 0 (cF (.int 2)), odK 0 2]) (ve_bin op_mulA (O_mul (k := 0)) (vo_e (T := []) (k := 0) (f := cF (.int 2)) (ve_int (k := 0))) (xo 2) (by decide))) (by decide)))   (vss_nil))  (vss_nil))   (vss_cons (κ1 := [0, 0, 0]) (s := ifS (andF (tstF (opF geD [odK 0 2, odE [] 0 (opF powD [odE [] 0 (cF (.int 10)), odE [] 0 (cF (.int 18))])])) (tstF (opF ltD [odK 0 1, odE [] 0 (opF lenD [odK 0 0])]))) (seqS (retS (rd 2)) (nilS)) (nilS))   (vs_if (T := []) (t := andF (tstF (opF geD [odK 0 2, odE [] 0 (opF powD [odE [] 0 (cF (.int 10)), odE [] 0 (cF (.int 18))])])) (tstF (opF ltD [odK 0 1, odE [] 0 (opF lenD [odK 0 0])]))) ((vw_and (vt_cmp op_ge (O_ge ) (xo 2) (vo_e (T := []) (k := 0) (f := opF powD [odE [] 0 (cF (.int 10)), odE [] 0 (cF (.int 18))]) (ve_bin op_pow (O_pow (k := 0)) (vo_e (T := []) (k := 0) (f := cF (.int 10)) (ve_int (k := 0))) (vo_e (T := []) (k := 0) (f := cF (.int 18)) (ve_int (k := 0))) (by decide))) (by decide)) (vw_and1 (vt_cmp op_lt (O_lt ) (xo 1) (vo_e (T := []) (k := 0) (f := opF lenD [odK 0 0]) (ve_callB call_len (O_len (k := 0)) (by rfl) (by exact bn "len" (by decide)) vb_len (va_cons (xo 0) (va_nil) (by decide)))) (by decide)))).pt)  (vss_cons (κ1 := [0, 0, 0]) (s := retS (rd 2))   (vs_ret (T := []) (f := rd 2) (xv 2))   (vss_nil))  (vss_nil))   (vss_cons (κ1 := [0, 0, 0]) (s := retS (opF modD [odE [] 0 (opF intD [odE [] 1 (opF addD [odE [] 0 (opF mulD [odE [] 0 (opF intD [odE [] 1 (opF addD [odE [] 1 (opF addD [odE [] 0 (opF mulD [odK 0 2, odE [] 0 (cF (.int 48271))]), odE [] 0 (opF mulD [odK 0 1, odE [] 0 (cF (.int 69621))])]), odE [] 0 (cF (.int 12345))])]), odE [] 0 (cF (.int 40692))]), odE [] 0 (cF (.int 7))])]), odE [] 0 (cF (.int 2147483399))]))   (vs_ret (T := []) (f := opF modD [odE [] 0 (opF intD [odE [] 1 (opF addD [odE [] 0 (opF mulD [odE [] 0 (opF intD [odE [] 1 (opF addD [odE [] 1 (opF addD [odE [] 0 (opF mulD [odK 0 2, odE [] 0 (cF (.int 48271))]), odE [] 0 (opF mulD [odK 0 1, odE [] 0 (cF (.int 69621))])]), odE [] 0 (cF (.int 12345))])]), odE [] 0 (cF (.int 40692))]), odE [] 0 (cF (.int 7))])]), odE [] 0 (cF (.int 2147483399))]) (ve_bin op_mod (O_mod (k := 0)) (vo_e (T := []) (k := 0) (f := opF intD [odE [] 1 (opF addD [odE [] 0 (opF mulD [odE [] 0 (opF intD [odE [] 1 (opF addD [odE [] 1 (opF addD [odE [] 0 (opF mulD [odK 0 2, odE [] 0 (cF (.int 48271))]), odE [] 0 (opF mulD [odK 0 1, odE [] 0 (cF (.int 69621))])]), odE [] 0 (cF (.int 12345))])]), odE [] 0 (cF (.int 40692))]), odE [] 0 (cF (.int 7))])]) (ve_callTy call_int1 (O_int (k := 0)) (by rfl) (by exact bn "int" (by decide)) vb_int (va_cons (vo_e (T := []) (k := 1) (f := opF addD [odE [] 0 (opF mulD [odE [] 0 (opF intD [odE [] 1 (opF addD [odE [] 1 (opF addD [odE [] 0 (opF mulD [odK 0 2, odE [] 0 (cF (.int 48271))]), odE [] 0 (opF mulD [odK 0 1, odE [] 0 (cF (.int 69621))])]), odE [] 0 (cF (.int 12345))])]), odE [] 0 (cF (.int 40692))]), odE [] 0 (cF (.int 7))]) (ve_bin op_addA (O_add (by decide) (by decide)) (vo_e (T := []) (k := 0) (f := opF mulD [odE [] 0 (opF intD [odE [] 1 (opF addD [odE [] 1 (opF addD [odE [] 0 (opF mulD [odK 0 2, odE [] 0 (cF (.int 48271))]), odE [] 0 (opF mulD [odK 0 1, odE [] 0 (cF (.int 69621))])]), odE [] 0 (cF (.int 12345))])]), odE [] 0 (cF (.int 40692))]) (ve_bin op_mulA (O_mul (k := 0)) (vo_e (T := []) (k := 0) (f := opF intD [odE [] 1 (opF addD [odE [] 1 (opF addD [odE [] 0 (opF mulD [odK 0 2, odE [] 0 (cF (.int 48271))]), odE [] 0 (opF mulD [odK 0 1, odE [] 0 (cF (.int 69621))])]), odE [] 0 (cF (.int 12345))])]) (ve_callTy call_int1 (O_int (k := 0)) (by rfl) (by exact bn "int" (by decide)) vb_int (va_cons (vo_e (T := []) (k := 1) (f := opF addD [odE [] 1 (opF addD [odE [] 0 (opF mulD [odK 0 2, odE [] 0 (cF (.int 48271))]), odE [] 0 (opF mulD [odK 0 1, odE [] 0 (cF (.int 69621))])]), odE [] 0 (cF (.int 12345))]) (ve_bin op_addA (O_add (by decide) (by decide)) (vo_e (T := []) (k := 1) (f := opF addD [odE [] 0 (opF mulD [odK 0 2, odE [] 0 (cF (.int 48271))]), odE [] 0 (opF mulD [odK 0 1, odE [] 0 (cF (.int 69621))])]) (ve_bin op_addA (O_add (by decide) (by decide)) (vo_e (T := []) (k := 0) (f := opF mulD [odK 0 2, odE [] 0 (cF (.int 48271))]) (ve_bin op_mulA (O_mul (k := 0)) (xo 2) (vo_e (T := []) (k := 0) (f := cF (.int 48271)) (ve_int (k := 0))) (by decide))) (vo_e (T := []) (k := 0) (f := opF mulD [odK 0 1, odE [] 0 (cF (.int 69621))]) (ve_bin op_mulA (O_mul (k := 0)) (xo 1) (vo_e (T := []) (k := 0) (f := cF (.int 69621)) (ve_int (k := 0))) (by decide))) (by decide))) (vo_e (T := []) (k := 0) (f := cF (.int 12345)) (ve_int (k := 0))) (by decide))) (va_nil) (by decide)))) (vo_e (T := []) (k := 0) (f := cF (.int 40692)) (ve_int (k := 0))) (by decide))) (vo_e (T := []) (k := 0) (f := cF (.int 7)) (ve_int (k := 0))) (by decide))) (va_nil) (by decide)))) (vo_e (T := []) (k := 0) (f := cF (.int 2147483399)) (ve_int (k := 0))) (by decide)))   (vss_nil)))))
  exact ⟨fa, fd, _, h, hm, F.kp, hb⟩
abbrev s_ulaw_draw : Stmt := topS 14
theorem sc_ulaw_draw : FnScope N_ulaw_draw ["state", "script", "size"] (defScope s_ulaw_draw) := ⟨rfl, rfl, rfl, by decide +kernel, rfl, by decide +kernel, by decide +kernel⟩
theorem ok_ulaw_draw {P : Program} {w : World} {K : PySem.W.Frag} {mg : Str → Option Value} {base : Heap} {fa : Addr} {fd : FuncData} (F : Fun K "_law_draw" "_law_draw" s_ulaw_draw fa fd) (hm : mg "_law_draw" = some (.ref fa)) (hb : Binds K fd ["state", "script", "size"] []) (bn : ∀ x, x ∈ bnames → mg x = none) (C_ulaw_refill : CalD P w K mg base 1 "_law_refill" (spD ⟨K, P, w⟩ [] [0, 0] 0 F_ulaw_refill)) : CalD P w K mg base 2 "_law_draw" (spD ⟨K, P, w⟩ [0] [1, 0, 0] 0 F_ulaw_draw) := by
  have h : FnOk P w K mg base CX0 2 fa fd ["state", "script", "size"] (spD ⟨K, P, w⟩ [0] [1, 0, 0] 0 (fnF [0] N_ulaw_draw.length S_ulaw_draw)) := by
    refine fn_ok (lv := 1) (N := N_ulaw_draw) (κ' := [1, 0, 0, 0]) (κp := [1, 0, 0]) (κl := [0]) (Φ := [0]) (s := S_ulaw_draw) F sc_ulaw_draw rfl rfl (zero_out (by decide)) (fun cdv A outer s0 H E hr => ?_)
    have hu := hr.units
    have nd := sc_ulaw_draw.nd
    exact vss_cons (κ1 := [1, 0, 0, 0]) (s := ifS (tstF (opF eqD [odE [] 0 (opF ixD [odK 1 0, odE [] 0 (cF (.int 1))]), odE [] 0 (cF (.int 0))])) (seqS (stS 0 (callF [odE [] 0 (rd 1), odE [] 0 (opF ixD [odK 1 0, odE [] 0 (cF (.int 0))])] F_ulaw_refill) (cF (.int 1))) (seqS (stS 0 (opF addD [odE [] 0 (opF ixD [odK 1 0, odE [] 0 (cF (.int 0))]), odE [] 0 (cF (.int 1))]) (cF (.int 0))) (nilS))) (nilS))   (vs_if (T := []) (t := tstF (opF eqD [odE [] 0 (opF ixD [odK 1 0, odE [] 0 (cF (.int 1))]), odE [] 0 (cF (.int 0))])) (vt_cmp (op_eqA hu) (O_eq ) (vo_e (T := []) (k := 0) (f := opF ixD [odK 1 0, odE [] 0 (cF (.int 1))]) (ve_ix ix_seq (O_ix (by decide)) (xo 0) (vo_e (T := []) (k := 0) (f := cF (.int 1)) (ve_int (k := 0))) (by decide))) (vo_e (T := []) (k := 0) (f := cF (.int 0)) (ve_int (k := 0))) (by decide))  (vss_cons (κ1 := [1, 0, 0, 0]) (s := stS 0 (callF [odE [] 0 (rd 1), odE [] 0 (opF ixD [odK 1 0, odE [] 0 (cF (.int 0))])] F_ulaw_refill) (cF (.int 1)))   (vs_setIx (i := 0) (T := []) (U := []) (f := callF [odE [] 0 (rd 1), odE [] 0 (opF ixD [odK 1 0, odE [] 0 (cF (.int 0))])] F_ulaw_refill) (g := cF (.int 1)) (by decide) (by decide) rfl (by first | exact Or.inl rfl | exact Or.inr (Or.inl rfl) | exact Or.inr (Or.inr rfl)) (ve_fn (k := 0) (fn := F_ulaw_refill) (C_ulaw_refill.mono (by decide)) hr (va_cons (vo_e (T := []) (k := 0) (f := rd 1) (xv 1)) (va_cons (vo_e (T := []) (k := 0) (f := opF ixD [odK 1 0, odE [] 0 (cF (.int 0))]) (ve_ix ix_seq (O_ix (by decide)) (xo 0) (vo_e (T := []) (k := 0) (f := cF (.int 0)) (ve_int (k := 0))) (by decide))) (va_nil) (by decide)) (by decide))) (ve_int (k := 0)))   (vss_cons (κ1 := [1, 0, 0, 0]) (s := stS 0 (opF addD [odE [] 0 (opF ixD [odK 1 0, odE [] 0 (cF (.int 0))]), odE [] 0 (cF (.int 1))]) (cF (.int 0)))   (vs_setIx (i := 0) (T := []) (U := []) (f := opF addD [odE [] 0 (opF ixD [odK 1 0, odE [] 0 (cF (.int 0))]), odE [] 0 (cF (.int 1))]) (g := cF (.int 0)) (by decide) (by decide) rfl (by first | exact Or.inl rfl | exact Or.inr (Or.inl rfl) | exact Or.inr (Or.inr rfl)) (ve_share (k := 1) (ve_bin op_addA (O_add (by decide) (by decide)) (vo_e (T := []) (k := 0) (f := opF ixD [odK 1 0, odE [] 0 (cF (.int 0))]) (ve_ix ix_seq (O_ix (by decide)) (xo 0) (vo_e (T := []) (k := 0) (f := cF (.int 0)) (ve_int (k := 0))) (by decide))) (vo_e (T := []) (k := 0) (f := cF (.int 1)) (ve_int (k := 0))) (by decide))) (ve_int (k := 0)))   (vss_nil)))  (vss_nil))   (vss_cons (κ1 := [1, 0, 0, 0]) (s := setS 3 (opF modD [odE [] 0 (opF intD [odE [] 0 (opF ixD [odK 1 0, odE [] 0 (cF (.int 1))])]), odK 0 2]))   (vs_set (i := 3) (T := []) (j := 0) (f := opF modD [odE [] 0 (opF intD [odE [] 0 (opF ixD [odK 1 0, odE [] 0 (cF (.int 1))])]), odK 0 2]) (by decide) (by decide) nd rfl (by first | exact Or.inl rfl | exact Or.inr rfl) (ve_bin op_mod (O_mod (k := 0)) (vo_e (T := []) (k := 0) (f := opF intD [odE [] 0 (opF ixD [odK 1 0, odE [] 0 (cF (.int 1))])]) (ve_callTy call_int1 (O_int (k := 0)) (by rfl) (by exact bn "int" (by decide)) vb_int (va_cons (vo_e (T := []) (k := 0) (f := opF ixD [odK 1 0, odE [] 0 (cF (.int 1))]) (ve_ix ix_seq (O_ix (by decide)) (xo 0) (vo_e (T := []) (k := 0) (f := cF (.int 1)) (ve_int (k := 0))) (by decide))) (va_nil) (by decide)))) (xo 2) (by decide)))   (vss_cons (κ1 := [1, 0, 0, 0]) (s := stS 0 (opF fdivD [odE [] 0 (opF ixD [odK 1 0, odE [] 0 (cF (.int 1))]), odK 0 2]) (cF (.int 1)))   (vs_setIx (i := 0) (T := []) (U := []) (f := opF fdivD [odE [] 0 (opF ixD [odK 1 0, odE [] 0 (cF (.int 1))]), odK 0 2]) (g := cF (.int 1)) (by decide) (by decide) rfl (by first | exact Or.inl rfl | exact Or.inr (Or.inl rfl) | exact Or.inr (Or.inr rfl)) (ve_bin op_fdivA (O_fdiv (k := 0)) (vo_e (T := []) (k := 0) (f := opF ixD [odK 1 0, odE [] 0 (cF (.int 1))]) (ve_ix ix_seq (O_ix (by decide)) (xo 0) (vo_e (T := []) (k := 0) (f := cF (.int 1)) (ve_int (k := 0))) (by decide))) (xo 2) (by decide)) (ve_int (k := 0)))   (vss_cons (κ1 := [1, 0, 0, 0]) (s := retS (rd 3))   (vs_ret (T := []) (f := rd 3) (xv 3))   (vss_nil))))
  exact ⟨fa, fd, _, h, hm, F.kp, hb⟩
abbrev s_ulaw_exact : Stmt := topS 15
theorem sc_ulaw_exact : FnScope N_ulaw_exact ["first", "second"] (defScope s_ulaw_exact) := ⟨rfl, rfl, rfl, by decide +kernel, rfl, by decide +kernel, by decide +kernel⟩
theorem ok_ulaw_exact {P : Program} {w : World} {K : PySem.W.Frag} {mg : Str → Option Value} {base : Heap} {fa : Addr} {fd : FuncData} (F : Fun K "_law_exact" "_law_exact" s_ulaw_exact fa fd) (hm : mg "_law_exact" = some (.ref fa)) (hb : Binds K fd ["first", "second"] []) (bn : ∀ x, x ∈ bnames → mg x = none)  : ∀ n : Nat, CalD P w K mg base (0 + n) "_law_exact" (spD ⟨K, P, w⟩ [] [0, 0] 0 (F_ulaw_exact n))
  | 0 => ⟨fa, fd, ["first", "second"], ⟨fun vs H Q E h => (by obtain ⟨_, _, _, _, _, _, e, _⟩ := h; cases e), fun _ _ _ _ _ _ _ _ _ _ _ _ _ h => (by obtain ⟨_, _, _, _, _, _, e, _⟩ := h; cases e)⟩, hm, F.kp, hb⟩
  | n + 1 => by
    have C_self := ok_ulaw_exact (P := P) (w := w) (base := base) F hm hb bn  n
    show CalD P w K mg base (0 + n + 1) "_law_exact" (spD ⟨K, P, w⟩ [] [0, 0] 0 (fnF [] N_ulaw_exact.length (S_ulaw_exact (F_ulaw_exact n))))
    generalize F_ulaw_exact n = self at C_self ⊢
    have h : FnOk P w K mg base CX0 (0 + n + 1) fa fd ["first", "second"] (spD ⟨K, P, w⟩ [] [0, 0] 0 (fnF [] N_ulaw_exact.length (S_ulaw_exact self))) := by
      refine fn_ok (lv := 0 + n) (N := N_ulaw_exact) (κ' := [0, 0, 0, 0]) (κp := [0, 0]) (κl := [0, 0]) (Φ := []) (s := S_ulaw_exact self) F sc_ulaw_exact rfl rfl (zero_out (by decide)) (fun cdv A outer s0 H E hr => ?_)
      have hu := hr.units
      have nd := sc_ulaw_exact.nd
      exact vss_cons (κ1 := [0, 0, 0, 0]) (s := ifS (truO (odE [] 0 (opF (isi2D "list" "tuple") [odK 0 0]))) (seqS (ifS (orF (tstF (opF neD [odE [] 0 (opF (isiD "list") [odK 0 0]), odE [] 0 (opF (isiD "list") [odK 0 1])])) (tstF (opF neD [odE [] 0 (opF (isiD "tuple") [odK 0 0]), odE [] 0 (opF (isiD "tuple") [odK 0 1])]))) (seqS (retS (cF (.bl false))) (nilS)) (nilS)) (seqS (retS (andV (opF eqD [odE [] 0 (opF lenD [odK 0 0]), odE [] 0 (opF lenD [odK 0 1])]) (opF allD [odE [] 1 ((ulaw_exact_c1 self))]))) (nilS))) (nilS))   (vs_if (T := []) (t := truO (odE [] 0 (opF (isi2D "list" "tuple") [odK 0 0]))) (vt_tru (vo_e (T := []) (k := 0) (f := opF (isi2D "list" "tuple") [odK 0 0]) (ve_isi2 (k := 0) (Ty := "list") (Sy := "tuple") (by first | decide | (intro i h; cases h; done) | exact Nat.le_refl _ | exact Nat.zero_le _ | (intro o ho; cases ho; done) | (intro o ho; simp only [List.mem_cons, List.mem_nil_iff, or_false] at ho; first | (subst ho; rfl) | (rcases ho with rfl | rfl <;> rfl) | (rcases ho with rfl | rfl | rfl <;> rfl)) | (intro i h; cases h; decide) | simp [alS]) (by first | decide | (intro i h; cases h; done) | exact Nat.le_refl _ | exact Nat.zero_le _ | (intro o ho; cases ho; done) | (intro o ho; simp only [List.mem_cons, List.mem_nil_iff, or_false] at ho; first | (subst ho; rfl) | (rcases ho with rfl | rfl <;> rfl) | (rcases ho with rfl | rfl | rfl <;> rfl)) | (intro i h; cases h; decide) | simp [alS]) (by rfl) (by exact bn "isinstance" (by first | decide | (intro i h; cases h; done) | exact Nat.le_refl _ | exact Nat.zero_le _ | (intro o ho; cases ho; done) | (intro o ho; simp only [List.mem_cons, List.mem_nil_iff, or_false] at ho; first | (subst ho; rfl) | (rcases ho with rfl | rfl <;> rfl) | (rcases ho with rfl | rfl | rfl <;> rfl)) | (intro i h; cases h; decide) | simp [alS])) (xo 0) (by rfl) (by exact bn "list" (by first | decide | (intro i h; cases h; done) | exact Nat.le_refl _ | exact Nat.zero_le _ | (intro o ho; cases ho; done) | (intro o ho; simp only [List.mem_cons, List.mem_nil_iff, or_false] at ho; first | (subst ho; rfl) | (rcases ho with rfl | rfl <;> rfl) | (rcases ho with rfl | rfl | rfl <;> rfl)) | (intro i h; cases h; decide) | simp [alS])) vb_list (by rfl) (by exact bn "tuple" (by first | decide | (intro i h; cases h; done) | exact Nat.le_refl _ | exact Nat.zero_le _ | (intro o ho; cases ho; done) | (intro o ho; simp only [List.mem_cons, List.mem_nil_iff, or_false] at ho; first | (subst ho; rfl) | (rcases ho with rfl | rfl <;> rfl) | (rcases ho with rfl | rfl | rfl <;> rfl)) | (intro i h; cases h; decide) | simp [alS])) vb_tuple)))  (vss_cons (κ1 := [0, 0, 0, 0]) (s := ifS (orF (tstF (opF neD [odE [] 0 (opF (isiD "list") [odK 0 0]), odE [] 0 (opF (isiD "list") [odK 0 1])])) (tstF (opF neD [odE [] 0 (opF (isiD "tuple") [odK 0 0]), odE [] 0 (opF (isiD "tuple") [odK 0 1])]))) (seqS (retS (cF (.bl false))) (nilS)) (nilS))   (vs_if (T := []) (t := orF (tstF (opF neD [odE [] 0 (opF (isiD "list") [odK 0 0]), odE [] 0 (opF (isiD "list") [odK 0 1])])) (tstF (opF neD [odE [] 0 (opF (isiD "tuple") [odK 0 0]), odE [] 0 (opF (isiD "tuple") [odK 0 1])]))) ((vw_or (vt_cmp (op_neA hu) (O_ne ) (vo_e (T := []) (k := 0) (f := opF (isiD "list") [odK 0 0]) (ve_isi (k := 0) (Ty := "list") (by first | decide | (intro i h; cases h; done) | exact Nat.le_refl _ | exact Nat.zero_le _ | (intro o ho; cases ho; done) | (intro o ho; simp only [List.mem_cons, List.mem_nil_iff, or_false] at ho; first | (subst ho; rfl) | (rcases ho with rfl | rfl <;> rfl) | (rcases ho with rfl | rfl | rfl <;> rfl)) | (intro i h; cases h; decide) | simp [alS]) (by rfl) (by exact bn "isinstance" (by first | decide | (intro i h; cases h; done) | exact Nat.le_refl _ | exact Nat.zero_le _ | (intro o ho; cases ho; done) | (intro o ho; simp only [List.mem_cons, List.mem_nil_iff, or_false] at ho; first | (subst ho; rfl) | (rcases ho with rfl | rfl <;> rfl) | (rcases ho with rfl | rfl | rfl <;> rfl)) | (intro i h; cases h; decide) | simp [alS])) (xo 0) (by rfl) (by exact bn "list" (by first | decide | (intro i h; cases h; done) | exact Nat.le_refl _ | exact Nat.zero_le _ | (intro o ho; cases ho; done) | (intro o ho; simp only [List.mem_cons, List.mem_nil_iff, or_false] at ho; first | (subst ho; rfl) | (rcases ho with rfl | rfl <;> rfl) | (rcases ho with rfl | rfl | rfl <;> rfl)) | (intro i h; cases h; decide) | simp [alS])) vb_list)) (vo_e (T := []) (k := 0) (f := opF (isiD "list") [odK 0 1]) (ve_isi (k := 0) (Ty := "list") (by first | decide | (intro i h; cases h; done) | exact Nat.le_refl _ | exact Nat.zero_le _ | (intro o ho; cases ho; done) | (intro o ho; simp only [List.mem_cons, List.mem_nil_iff, or_false] at ho; first | (subst ho; rfl) | (rcases ho with rfl | rfl <;> rfl) | (rcases ho with rfl | rfl | rfl <;> rfl)) | (intro i h; cases h; decide) | simp [alS]) (by rfl) (by exact bn "isinstance" (by first | decide | (intro i h; cases h; done) | exact Nat.le_refl _ | exact Nat.zero_le _ | (intro o ho; cases ho; done) | (intro o ho; simp only [List.mem_cons, List.mem_nil_iff, or_false] at ho; first | (subst ho; rfl) | (rcases ho with rfl | rfl <;> rfl) | (rcases ho with rfl | rfl | rfl <;> rfl)) | (intro i h; cases h; decide) | simp [alS])) (xo 1) (by rfl) (by exact bn "list" (by first | decide | (intro i h; cases h; done) | exact Nat.le_refl _ | exact Nat.zero_le _ | (intro o ho; cases ho; done) | (intro o ho; simp only [List.mem_cons, List.mem_nil_iff, or_false] at ho; first | (subst ho; rfl) | (rcases ho with rfl | rfl <;> rfl) | (rcases ho with rfl | rfl | rfl <;> rfl)) | (intro i h; cases h; decide) | simp [alS])) vb_list)) (by first | decide | (intro i h; cases h; done) | exact Nat.le_refl _ | exact Nat.zero_le _ | (intro o ho; cases ho; done) | (intro o ho; simp only [List.mem_cons, List.mem_nil_iff, or_false] at ho; first | (subst ho; rfl) | (rcases ho with rfl | rfl <;> rfl) | (rcases ho with rfl | rfl | rfl <;> rfl)) | (intro i h; cases h; decide) | simp [alS])) (vw_or1 (vt_cmp (op_neA hu) (O_ne ) (vo_e (T := []) (k := 0) (f := opF (isiD "tuple") [odK 0 0]) (ve_isi (k := 0) (Ty := "tuple") (by first | decide | (intro i h; cases h; done) | exact Nat.le_refl _ | exact Nat.zero_le _ | (intro o ho; cases ho; done) | (intro o ho; simp only [List.mem_cons, List.mem_nil_iff, or_false] at ho; first | (subst ho; rfl) | (rcases ho with rfl | rfl <;> rfl) | (rcases ho with rfl | rfl | rfl <;> rfl)) | (intro i h; cases h; decide) | simp [alS]) (by rfl) (by exact bn "isinstance" (by first | decide | (intro i h; cases h; done) | exact Nat.le_refl _ | exact Nat.zero_le _ | (intro o ho; cases ho; done) | (intro o ho; simp only [List.mem_cons, List.mem_nil_iff, or_false] at ho; first | (subst ho; rfl) | (rcases ho with rfl | rfl <;> rfl) | (rcases ho with rfl | rfl | rfl <;> rfl)) | (intro i h; cases h; decide) | simp [alS])) (xo 0) (by rfl) (by exact bn "tuple" (by first | decide | (intro i h; cases h; done) | exact Nat.le_refl _ | exact Nat.zero_le _ | (intro o ho; cases ho; done) | (intro o ho; simp only [List.mem_cons, List.mem_nil_iff, or_false] at ho; first | (subst ho; rfl) | (rcases ho with rfl | rfl <;> rfl) | (rcases ho with rfl | rfl | rfl <;> rfl)) | (intro i h; cases h; decide) | simp [alS])) vb_tuple)) (vo_e (T := []) (k := 0) (f := opF (isiD "tuple") [odK 0 1]) (ve_isi (k := 0) (Ty := "tuple") (by first | decide | (intro i h; cases h; done) | exact Nat.le_refl _ | exact Nat.zero_le _ | (intro o ho; cases ho; done) | (intro o ho; simp only [List.mem_cons, List.mem_nil_iff, or_false] at ho; first | (subst ho; rfl) | (rcases ho with rfl | rfl <;> rfl) | (rcases ho with rfl | rfl | rfl <;> rfl)) | (intro i h; cases h; decide) | simp [alS]) (by rfl) (by exact bn "isinstance" (by first | decide | (intro i h; cases h; done) | exact Nat.le_refl _ | exact Nat.zero_le _ | (intro o ho; cases ho; done) | (intro o ho; simp only [List.mem_cons, List.mem_nil_iff, or_false] at ho; first | (subst ho; rfl) | (rcases ho with rfl | rfl <;> rfl) | (rcases ho with rfl | rfl | rfl <;> rfl)) | (intro i h; cases h; decide) | simp [alS])) (xo 1) (by rfl) (by exact bn "tuple" (by first | decide | (intro i h; cases h; done) | exact Nat.le_refl _ | exact Nat.zero_le _ | (intro o ho; cases ho; done) | (intro o ho; simp only [List.mem_cons, List.mem_nil_iff, or_false] at ho; first | (subst ho; rfl) | (rcases ho with rfl | rfl <;> rfl) | (rcases ho with rfl | rfl | rfl <;> rfl)) | (intro i h; cases h; decide) | simp [alS])) vb_tuple)) (by first | decide | (intro i h; cases h; done) | exact Nat.le_refl _ | exact Nat.zero_le _ | (intro o ho; cases ho; done) | (intro o ho; simp only [List.mem_cons, List.mem_nil_iff, or_false] at ho; first | (subst ho; rfl) | (rcases ho with rfl | rfl <;> rfl) | (rcases ho with rfl | rfl | rfl <;> rfl)) | (intro i h; cases h; decide) | simp [alS])))).pt)  (vss_cons (κ1 := [0, 0, 0, 0]) (s := retS (cF (.bl false)))   (vs_ret (T := []) (f := cF (.bl false)) (ve_bl (k := 0)))   (vss_nil))  (vss_nil))   (vss_cons (κ1 := [0, 0, 0, 0]) (s := retS (andV (opF eqD [odE [] 0 (opF lenD [odK 0 0]), odE [] 0 (opF lenD [odK 0 1])]) (opF allD [odE [] 1 ((ulaw_exact_c1 self))])))   (vs_ret (T := []) (f := andV (opF eqD [odE [] 0 (opF lenD [odK 0 0]), odE [] 0 (opF lenD [odK 0 1])]) (opF allD [odE [] 1 ((ulaw_exact_c1 self))])) (ve_and (k := 0) (ve_cmp (op_eqA hu) (O_eq (k := 0)) (vo_e (T := []) (k := 0) (f := opF lenD [odK 0 0]) (ve_callB call_len (O_len (k := 0)) (by rfl) (by exact bn "len" (by first | decide | (intro i h; cases h; done) | exact Nat.le_refl _ | exact Nat.zero_le _ | (intro o ho; cases ho; done) | (intro o ho; simp only [List.mem_cons, List.mem_nil_iff, or_false] at ho; first | (subst ho; rfl) | (rcases ho with rfl | rfl <;> rfl) | (rcases ho with rfl | rfl | rfl <;> rfl)) | (intro i h; cases h; decide) | simp [alS])) vb_len (va_cons (xo 0) (va_nil) (by first | decide | (intro i h; cases h; done) | exact Nat.le_refl _ | exact Nat.zero_le _ | (intro o ho; cases ho; done) | (intro o ho; simp only [List.mem_cons, List.mem_nil_iff, or_false] at ho; first | (subst ho; rfl) | (rcases ho with rfl | rfl <;> rfl) | (rcases ho with rfl | rfl | rfl <;> rfl)) | (intro i h; cases h; decide) | simp [alS])))) (vo_e (T := []) (k := 0) (f := opF lenD [odK 0 1]) (ve_callB call_len (O_len (k := 0)) (by rfl) (by exact bn "len" (by first | decide | (intro i h; cases h; done) | exact Nat.le_refl _ | exact Nat.zero_le _ | (intro o ho; cases ho; done) | (intro o ho; simp only [List.mem_cons, List.mem_nil_iff, or_false] at ho; first | (subst ho; rfl) | (rcases ho with rfl | rfl <;> rfl) | (rcases ho with rfl | rfl | rfl <;> rfl)) | (intro i h; cases h; decide) | simp [alS])) vb_len (va_cons (xo 1) (va_nil) (by first | decide | (intro i h; cases h; done) | exact Nat.le_refl _ | exact Nat.zero_le _ | (intro o ho; cases ho; done) | (intro o ho; simp only [List.mem_cons, List.mem_nil_iff, or_false] at ho; first | (subst ho; rfl) | (rcases ho with rfl | rfl <;> rfl) | (rcases ho with rfl | rfl | rfl <;> rfl)) | (intro i h; cases h; decide) | simp [alS])))) (by first | decide | (intro i h; cases h; done) | exact Nat.le_refl _ | exact Nat.zero_le _ | (intro o ho; cases ho; done) | (intro o ho; simp only [List.mem_cons, List.mem_nil_iff, or_false] at ho; first | (subst ho; rfl) | (rcases ho with rfl | rfl <;> rfl) | (rcases ho with rfl | rfl | rfl <;> rfl)) | (intro i h; cases h; decide) | simp [alS])) (ve_one (ve_callB (cr_all rfl) (O_all (k := 0) (by first | decide | (intro i h; cases h; done) | exact Nat.le_refl _ | exact Nat.zero_le _ | (intro o ho; cases ho; done) | (intro o ho; simp only [List.mem_cons, List.mem_nil_iff, or_false] at ho; first | (subst ho; rfl) | (rcases ho with rfl | rfl <;> rfl) | (rcases ho with rfl | rfl | rfl <;> rfl)) | (intro i h; cases h; decide) | simp [alS])) (by rfl) (by exact bn "all" (by first | decide | (intro i h; cases h; done) | exact Nat.le_refl _ | exact Nat.zero_le _ | (intro o ho; cases ho; done) | (intro o ho; simp only [List.mem_cons, List.mem_nil_iff, or_false] at ho; first | (subst ho; rfl) | (rcases ho with rfl | rfl <;> rfl) | (rcases ho with rfl | rfl | rfl <;> rfl)) | (intro i h; cases h; decide) | simp [alS])) vb_all (va_cons (vo_e (T := []) (k := 1) (f := (ulaw_exact_c1 self)) (ve_lc (κ := [0, 0, 0, 0]) (T0 := []) (T1 := []) (T2 := []) (k := 0) (Φc := [0, 1, 2]) [] [("k", 3)] (by first | decide | (intro i h; cases h; done) | exact Nat.le_refl _ | exact Nat.zero_le _ | (intro o ho; cases ho; done) | (intro o ho; simp only [List.mem_cons, List.mem_nil_iff, or_false] at ho; first | (subst ho; rfl) | (rcases ho with rfl | rfl <;> rfl) | (rcases ho with rfl | rfl | rfl <;> rfl)) | (intro i h; cases h; decide) | simp [alS]) (by first | decide | (intro i h; cases h; done) | exact Nat.le_refl _ | exact Nat.zero_le _ | (intro o ho; cases ho; done) | (intro o ho; simp only [List.mem_cons, List.mem_nil_iff, or_false] at ho; first | (subst ho; rfl) | (rcases ho with rfl | rfl <;> rfl) | (rcases ho with rfl | rfl | rfl <;> rfl)) | (intro i h; cases h; decide) | simp [alS]) (by first | decide | (intro i h; cases h; done) | exact Nat.le_refl _ | exact Nat.zero_le _ | (intro o ho; cases ho; done) | (intro o ho; simp only [List.mem_cons, List.mem_nil_iff, or_false] at ho; first | (subst ho; rfl) | (rcases ho with rfl | rfl <;> rfl) | (rcases ho with rfl | rfl | rfl <;> rfl)) | (intro i h; cases h; decide) | simp [alS]) (by first | decide | (intro i h; cases h; done) | exact Nat.le_refl _ | exact Nat.zero_le _ | (intro o ho; cases ho; done) | (intro o ho; simp only [List.mem_cons, List.mem_nil_iff, or_false] at ho; first | (subst ho; rfl) | (rcases ho with rfl | rfl <;> rfl) | (rcases ho with rfl | rfl | rfl <;> rfl)) | (intro i h; cases h; decide) | simp [alS]) (by first | decide | (intro i h; cases h; done) | exact Nat.le_refl _ | exact Nat.zero_le _ | (intro o ho; cases ho; done) | (intro o ho; simp only [List.mem_cons, List.mem_nil_iff, or_false] at ho; first | (subst ho; rfl) | (rcases ho with rfl | rfl <;> rfl) | (rcases ho with rfl | rfl | rfl <;> rfl)) | (intro i h; cases h; decide) | simp [alS]) (by first | decide | (intro i h; cases h; done) | exact Nat.le_refl _ | exact Nat.zero_le _ | (intro o ho; cases ho; done) | (intro o ho; simp only [List.mem_cons, List.mem_nil_iff, or_false] at ho; first | (subst ho; rfl) | (rcases ho with rfl | rfl <;> rfl) | (rcases ho with rfl | rfl | rfl <;> rfl)) | (intro i h; cases h; decide) | simp [alS]) rfl nd (vi_rng1 (by rfl) (by exact bn "range" (by first | decide | (intro i h; cases h; done) | exact Nat.le_refl _ | exact Nat.zero_le _ | (intro o ho; cases ho; done) | (intro o ho; simp only [List.mem_cons, List.mem_nil_iff, or_false] at ho; first | (subst ho; rfl) | (rcases ho with rfl | rfl <;> rfl) | (rcases ho with rfl | rfl | rfl <;> rfl)) | (intro i h; cases h; decide) | simp [alS])) (va_cons (vo_e (T := []) (k := 0) (f := opF lenD [odK 0 0]) (ve_callB call_len (O_len (k := 0)) (by rfl) (by exact bn "len" (by first | decide | (intro i h; cases h; done) | exact Nat.le_refl _ | exact Nat.zero_le _ | (intro o ho; cases ho; done) | (intro o ho; simp only [List.mem_cons, List.mem_nil_iff, or_false] at ho; first | (subst ho; rfl) | (rcases ho with rfl | rfl <;> rfl) | (rcases ho with rfl | rfl | rfl <;> rfl)) | (intro i h; cases h; decide) | simp [alS])) vb_len (va_cons (xo 0) (va_nil) (by first | decide | (intro i h; cases h; done) | exact Nat.le_refl _ | exact Nat.zero_le _ | (intro o ho; cases ho; done) | (intro o ho; simp only [List.mem_cons, List.mem_nil_iff, or_false] at ho; first | (subst ho; rfl) | (rcases ho with rfl | rfl <;> rfl) | (rcases ho with rfl | rfl | rfl <;> rfl)) | (intro i h; cases h; decide) | simp [alS])))) (va_nil) (by first | decide | (intro i h; cases h; done) | exact Nat.le_refl _ | exact Nat.zero_le _ | (intro o ho; cases ho; done) | (intro o ho; simp only [List.mem_cons, List.mem_nil_iff, or_false] at ho; first | (subst ho; rfl) | (rcases ho with rfl | rfl <;> rfl) | (rcases ho with rfl | rfl | rfl <;> rfl)) | (intro i h; cases h; decide) | simp [alS]))) (blkOk_by (by kernel_rfl)) (fun s0 H0 C0 cl0 fp0 => vg_name (i := 3) (κ' := [0, 0, 0, 0]) (by first | decide | (intro i h; cases h; done) | exact Nat.le_refl _ | exact Nat.zero_le _ | (intro o ho; cases ho; done) | (intro o ho; simp only [List.mem_cons, List.mem_nil_iff, or_false] at ho; first | (subst ho; rfl) | (rcases ho with rfl | rfl <;> rfl) | (rcases ho with rfl | rfl | rfl <;> rfl)) | (intro i h; cases h; decide) | simp [alS]) (by first | decide | (intro i h; cases h; done) | exact Nat.le_refl _ | exact Nat.zero_le _ | (intro o ho; cases ho; done) | (intro o ho; simp only [List.mem_cons, List.mem_nil_iff, or_false] at ho; first | (subst ho; rfl) | (rcases ho with rfl | rfl <;> rfl) | (rcases ho with rfl | rfl | rfl <;> rfl)) | (intro i h; cases h; decide) | simp [alS]) rfl nd rfl (by first | exact Or.inl rfl | exact Or.inr rfl)) (fun s0 H0 C0 cl0 fp0 => vts_nil) (fun s0 H0 C0 cl0 fp0 => ve_fn (k := 0) (fn := self) C_self hr (va_cons (vo_e (T := []) (k := 0) (f := opF ixD [odK 0 0, odK 0 3]) (ve_ix ix_seq (O_ix (by first | decide | (intro i h; cases h; done) | exact Nat.le_refl _ | exact Nat.zero_le _ | (intro o ho; cases ho; done) | (intro o ho; simp only [List.mem_cons, List.mem_nil_iff, or_false] at ho; first | (subst ho; rfl) | (rcases ho with rfl | rfl <;> rfl) | (rcases ho with rfl | rfl | rfl <;> rfl)) | (intro i h; cases h; decide) | simp [alS])) (xo 0) (xo 3) (by first | decide | (intro i h; cases h; done) | exact Nat.le_refl _ | exact Nat.zero_le _ | (intro o ho; cases ho; done) | (intro o ho; simp only [List.mem_cons, List.mem_nil_iff, or_false] at ho; first | (subst ho; rfl) | (rcases ho with rfl | rfl <;> rfl) | (rcases ho with rfl | rfl | rfl <;> rfl)) | (intro i h; cases h; decide) | simp [alS]))) (va_cons (vo_e (T := []) (k := 0) (f := opF ixD [odK 0 1, odK 0 3]) (ve_ix ix_seq (O_ix (by first | decide | (intro i h; cases h; done) | exact Nat.le_refl _ | exact Nat.zero_le _ | (intro o ho; cases ho; done) | (intro o ho; simp only [List.mem_cons, List.mem_nil_iff, or_false] at ho; first | (subst ho; rfl) | (rcases ho with rfl | rfl <;> rfl) | (rcases ho with rfl | rfl | rfl <;> rfl)) | (intro i h; cases h; decide) | simp [alS])) (xo 1) (xo 3) (by first | decide | (intro i h; cases h; done) | exact Nat.le_refl _ | exact Nat.zero_le _ | (intro o ho; cases ho; done) | (intro o ho; simp only [List.mem_cons, List.mem_nil_iff, or_false] at ho; first | (subst ho; rfl) | (rcases ho with rfl | rfl <;> rfl) | (rcases ho with rfl | rfl | rfl <;> rfl)) | (intro i h; cases h; decide) | simp [alS]))) (va_nil) (by first | decide | (intro i h; cases h; done) | exact Nat.le_refl _ | exact Nat.zero_le _ | (intro o ho; cases ho; done) | (intro o ho; simp only [List.mem_cons, List.mem_nil_iff, or_false] at ho; first | (subst ho; rfl) | (rcases ho with rfl | rfl <;> rfl) | (rcases ho with rfl | rfl | rfl <;> rfl)) | (intro i h; cases h; decide) | simp [alS])) (by first | decide | (intro i h; cases h; done) | exact Nat.le_refl _ | exact Nat.zero_le _ | (intro o ho; cases ho; done) | (intro o ho; simp only [List.mem_cons, List.mem_nil_iff, or_false] at ho; first | (subst ho; rfl) | (rcases ho with rfl | rfl <;> rfl) | (rcases ho with rfl | rfl | rfl <;> rfl)) | (intro i h; cases h; decide) | simp [alS]))))) (va_nil) (by first | decide | (intro i h; cases h; done) | exact Nat.le_refl _ | exact Nat.zero_le _ | (intro o ho; cases ho; done) | (intro o ho; simp only [List.mem_cons, List.mem_nil_iff, or_false] at ho; first | (subst ho; rfl) | (rcases ho with rfl | rfl <;> rfl) | (rcases ho with rfl | rfl | rfl <;> rfl)) | (intro i h; cases h; decide) | simp [alS]))))))   (vss_nil)))  (vss_nil))   (vss_cons (κ1 := [0, 0, 0, 0]) (s := ifS (orF (tstF (opF isND [odK 0 0, odE [] 0 (cF .non)])) (tstF (opF isND [odK 0 1, odE [] 0 (cF .non)]))) (seqS (retS (andV (opF isND [odK 0 0, odE [] 0 (cF .non)]) (opF isND [odK 0 1, odE [] 0 (cF .non)]))) (nilS)) (nilS))   (vs_if (T := []) (t := orF (tstF (opF isND [odK 0 0, odE [] 0 (cF .non)])) (tstF (opF isND [odK 0 1, odE [] 0 (cF .non)]))) ((vw_or (vt_cmp op_isN (O_isN ) (xo 0) (vo_e (T := []) (k := 0) (f := cF .non) (ve_non (k := 0))) (by first | decide | (intro i h; cases h; done) | exact Nat.le_refl _ | exact Nat.zero_le _ | (intro o ho; cases ho; done) | (intro o ho; simp only [List.mem_cons, List.mem_nil_iff, or_false] at ho; first | (subst ho; rfl) | (rcases ho with rfl | rfl <;> rfl) | (rcases ho with rfl | rfl | rfl <;> rfl)) | (intro i h; cases h; decide) | simp [alS])) (vw_or1 (vt_cmp op_isN (O_isN ) (xo 1) (vo_e (T := []) (k := 0) (f := cF .non) (ve_non (k := 0))) (by first | decide | (intro i h; cases h; done) | exact Nat.le_refl _ | exact Nat.zero_le _ | (intro o ho; cases ho; done) | (intro o ho; simp only [List.mem_cons, List.mem_nil_iff, or_false] at ho; first | (subst ho; rfl) | (rcases ho with rfl | rfl <;> rfl) | (rcases ho with rfl | rfl | rfl <;> rfl)) | (intro i h; cases h; decide) | simp [alS])))).pt)  (vss_cons (κ1 := [0, 0, 0, 0]) (s := retS (andV (opF isND [odK 0 0, odE [] 0 (cF .non)]) (opF isND [odK 0 1, odE [] 0 (cF .non)])))   (vs_ret (T := []) (f := andV (opF isND [odK 0 0, odE [] 0 (cF .non)]) (opF isND [odK 0 1, odE [] 0 (cF .non)])) (ve_and (k := 0) (ve_cmp op_isN (O_isN (k := 0)) (xo 0) (vo_e (T := []) (k := 0) (f := cF .non) (ve_non (k := 0))) (by first | decide | (intro i h; cases h; done) | exact Nat.le_refl _ | exact Nat.zero_le _ | (intro o ho; cases ho; done) | (intro o ho; simp only [List.mem_cons, List.mem_nil_iff, or_false] at ho; first | (subst ho; rfl) | (rcases ho with rfl | rfl <;> rfl) | (rcases ho with rfl | rfl | rfl <;> rfl)) | (intro i h; cases h; decide) | simp [alS])) (ve_one (ve_cmp op_isN (O_isN (k := 0)) (xo 1) (vo_e (T := []) (k := 0) (f := cF .non) (ve_non (k := 0))) (by first | decide | (intro i h; cases h; done) | exact Nat.le_refl _ | exact Nat.zero_le _ | (intro o ho; cases ho; done) | (intro o ho; simp only [List.mem_cons, List.mem_nil_iff, or_false] at ho; first | (subst ho; rfl) | (rcases ho with rfl | rfl <;> rfl) | (rcases ho with rfl | rfl | rfl <;> rfl)) | (intro i h; cases h; decide) | simp [alS])))))   (vss_nil))  (vss_nil))   (vss_cons (κ1 := [0, 0, 0, 0]) (s := setS 2 (andV (opF eqD [odE [] 0 (opF (isiD "str") [odK 0 0]), odE [] 0 (opF (isiD "str") [odK 0 1])]) (opF eqD [odE [] 0 (opF (isiD "bool") [odK 0 0]), odE [] 0 (opF (isiD "bool") [odK 0 1])])))   (vs_set (i := 2) (T := []) (j := 0) (f := andV (opF eqD [odE [] 0 (opF (isiD "str") [odK 0 0]), odE [] 0 (opF (isiD "str") [odK 0 1])]) (opF eqD [odE [] 0 (opF (isiD "bool") [odK 0 0]), odE [] 0 (opF (isiD "bool") [odK 0 1])])) (by first | decide | (intro i h; cases h; done) | exact Nat.le_refl _ | exact Nat.zero_le _ | (intro o ho; cases ho; done) | (intro o ho; simp only [List.mem_cons, List.mem_nil_iff, or_false] at ho; first | (subst ho; rfl) | (rcases ho with rfl | rfl <;> rfl) | (rcases ho with rfl | rfl | rfl <;> rfl)) | (intro i h; cases h; decide) | simp [alS]) (by first | decide | (intro i h; cases h; done) | exact Nat.le_refl _ | exact Nat.zero_le _ | (intro o ho; cases ho; done) | (intro o ho; simp only [List.mem_cons, List.mem_nil_iff, or_false] at ho; first | (subst ho; rfl) | (rcases ho with rfl | rfl <;> rfl) | (rcases ho with rfl | rfl | rfl <;> rfl)) | (intro i h; cases h; decide) | simp [alS]) nd rfl (by first | exact Or.inl rfl | exact Or.inr rfl) (ve_and (k := 0) (ve_cmp (op_eqA hu) (O_eq (k := 0)) (vo_e (T := []) (k := 0) (f := opF (isiD "str") [odK 0 0]) (ve_isi (k := 0) (Ty := "str") (by first | decide | (intro i h; cases h; done) | exact Nat.le_refl _ | exact Nat.zero_le _ | (intro o ho; cases ho; done) | (intro o ho; simp only [List.mem_cons, List.mem_nil_iff, or_false] at ho; first | (subst ho; rfl) | (rcases ho with rfl | rfl <;> rfl) | (rcases ho with rfl | rfl | rfl <;> rfl)) | (intro i h; cases h; decide) | simp [alS]) (by rfl) (by exact bn "isinstance" (by first | decide | (intro i h; cases h; done) | exact Nat.le_refl _ | exact Nat.zero_le _ | (intro o ho; cases ho; done) | (intro o ho; simp only [List.mem_cons, List.mem_nil_iff, or_false] at ho; first | (subst ho; rfl) | (rcases ho with rfl | rfl <;> rfl) | (rcases ho with rfl | rfl | rfl <;> rfl)) | (intro i h; cases h; decide) | simp [alS])) (xo 0) (by rfl) (by exact bn "str" (by first | decide | (intro i h; cases h; done) | exact Nat.le_refl _ | exact Nat.zero_le _ | (intro o ho; cases ho; done) | (intro o ho; simp only [List.mem_cons, List.mem_nil_iff, or_false] at ho; first | (subst ho; rfl) | (rcases ho with rfl | rfl <;> rfl) | (rcases ho with rfl | rfl | rfl <;> rfl)) | (intro i h; cases h; decide) | simp [alS])) vb_str)) (vo_e (T := []) (k := 0) (f := opF (isiD "str") [odK 0 1]) (ve_isi (k := 0) (Ty := "str") (by first | decide | (intro i h; cases h; done) | exact Nat.le_refl _ | exact Nat.zero_le _ | (intro o ho; cases ho; done) | (intro o ho; simp only [List.mem_cons, List.mem_nil_iff, or_false] at ho; first | (subst ho; rfl) | (rcases ho with rfl | rfl <;> rfl) | (rcases ho with rfl | rfl | rfl <;> rfl)) | (intro i h; cases h; decide) | simp [alS]) (by rfl) (by exact bn "isinstance" (by first | decide | (intro i h; cases h; done) | exact Nat.le_refl _ | exact Nat.zero_le _ | (intro o ho; cases ho; done) | (intro o ho; simp only [List.mem_cons, List.mem_nil_iff, or_false] at ho; first | (subst ho; rfl) | (rcases ho with rfl | rfl <;> rfl) | (rcases ho with rfl | rfl | rfl <;> rfl)) | (intro i h; cases h; decide) | simp [alS])) (xo 1) (by rfl) (by exact bn "str" (by first | decide | (intro i h; cases h; done) | exact Nat.le_refl _ | exact Nat.zero_le _ | (intro o ho; cases ho; done) | (intro o ho; simp only [List.mem_cons, List.mem_nil_iff, or_false] at ho; first | (subst ho; rfl) | (rcases ho with rfl | rfl <;> rfl) | (rcases ho with rfl | rfl | rfl <;> rfl)) | (intro i h; cases h; decide) | simp [alS])) vb_str)) (by first | decide | (intro i h; cases h; done) | exact Nat.le_refl _ | exact Nat.zero_le _ | (intro o ho; cases ho; done) | (intro o ho; simp only [List.mem_cons, List.mem_nil_iff, or_false] at ho; first | (subst ho; rfl) | (rcases ho with rfl | rfl <;> rfl) | (rcases ho with rfl | rfl | rfl <;> rfl)) | (intro i h; cases h; decide) | simp [alS])) (ve_one (ve_cmp (op_eqA hu) (O_eq (k := 0)) (vo_e (T := []) (k := 0) (f := opF (isiD "bool") [odK 0 0]) (ve_isi (k := 0) (Ty := "bool") (by first | decide | (intro i h; cases h; done) | exact Nat.le_refl _ | exact Nat.zero_le _ | (intro o ho; cases ho; done) | (intro o ho; simp only [List.mem_cons, List.mem_nil_iff, or_false] at ho; first | (subst ho; rfl) | (rcases ho with rfl | rfl <;> rfl) | (rcases ho with rfl | rfl | rfl <;> rfl)) | (intro i h; cases h; decide) | simp [alS]) (by rfl) (by exact bn "isinstance" (by first | decide | (intro i h; cases h; done) | exact Nat.le_refl _ | exact Nat.zero_le _ | (intro o ho; cases ho; done) | (intro o ho; simp only [List.mem_cons, List.mem_nil_iff, or_false] at ho; first | (subst ho; rfl) | (rcases ho with rfl | rfl <;> rfl) | (rcases ho with rfl | rfl | rfl <;> rfl)) | (intro i h; cases h; decide) | simp [alS])) (xo 0) (by rfl) (by exact bn "bool" (by first | decide | (intro i h; cases h; done) | exact Nat.le_refl _ | exact Nat.zero_le _ | (intro o ho; cases ho; done) | (intro o ho; simp only [List.mem_cons, List.mem_nil_iff, or_false] at ho; first | (subst ho; rfl) | (rcases ho with rfl | rfl <;> rfl) | (rcases ho with rfl | rfl | rfl <;> rfl)) | (intro i h; cases h; decide) | simp [alS])) vb_bool)) (vo_e (T := []) (k := 0) (f := opF (isiD "bool") [odK 0 1]) (ve_isi (k := 0) (Ty := "bool") (by first | decide | (intro i h; cases h; done) | exact Nat.le_refl _ | exact Nat.zero_le _ | (intro o ho; cases ho; done) | (intro o ho; simp only [List.mem_cons, List.mem_nil_iff, or_false] at ho; first | (subst ho; rfl) | (rcases ho with rfl | rfl <;> rfl) | (rcases ho with rfl | rfl | rfl <;> rfl)) | (intro i h; cases h; decide) | simp [alS]) (by rfl) (by exact bn "isinstance" (by first | decide | (intro i h; cases h; done) | exact Nat.le_refl _ | exact Nat.zero_le _ | (intro o ho; cases ho; done) | (intro o ho; simp only [List.mem_cons, List.mem_nil_iff, or_false] at ho; first | (subst ho; rfl) | (rcases ho with rfl | rfl <;> rfl) | (rcases ho with rfl | rfl | rfl <;> rfl)) | (intro i h; cases h; decide) | simp [alS])) (xo 1) (by rfl) (by exact bn "bool" (by first | decide | (intro i h; cases h; done) | exact Nat.le_refl _ | exact Nat.zero_le _ | (intro o ho; cases ho; done) | (intro o ho; simp only [List.mem_cons, List.mem_nil_iff, or_false] at ho; first | (subst ho; rfl) | (rcases ho with rfl | rfl <;> rfl) | (rcases ho with rfl | rfl | rfl <;> rfl)) | (intro i h; cases h; decide) | simp [alS])) vb_bool)) (by first | decide | (intro i h; cases h; done) | exact Nat.le_refl _ | exact Nat.zero_le _ | (intro o ho; cases ho; done) | (intro o ho; simp only [List.mem_cons, List.mem_nil_iff, or_false] at ho; first | (subst ho; rfl) | (rcases ho with rfl | rfl <;> rfl) | (rcases ho with rfl | rfl | rfl <;> rfl)) | (intro i h; cases h; decide) | simp [alS])))))   (vss_cons (κ1 := [0, 0, 0, 0]) (s := retS (andV (rd 2) (andV (opF eqD [odE [] 0 (opF (isiD "int") [odK 0 0]), odE [] 0 (opF (isiD "int") [odK 0 1])]) (opF eqD [odK 0 0, odK 0 1]))))   (vs_ret (T := []) (f := andV (rd 2) (andV (opF eqD [odE [] 0 (opF (isiD "int") [odK 0 0]), odE [] 0 (opF (isiD "int") [odK 0 1])]) (opF eqD [odK 0 0, odK 0 1]))) (ve_and (k := 0) (xv 2) (ve_and (k := 0) (ve_cmp (op_eqA hu) (O_eq (k := 0)) (vo_e (T := []) (k := 0) (f := opF (isiD "int") [odK 0 0]) (ve_isi (k := 0) (Ty := "int") (by first | decide | (intro i h; cases h; done) | exact Nat.le_refl _ | exact Nat.zero_le _ | (intro o ho; cases ho; done) | (intro o ho; simp only [List.mem_cons, List.mem_nil_iff, or_false] at ho; first | (subst ho; rfl) | (rcases ho with rfl | rfl <;> rfl) | (rcases ho with rfl | rfl | rfl <;> rfl)) | (intro i h; cases h; decide) | simp [alS]) (by rfl) (by exact bn "isinstance" (by first | decide | (intro i h; cases h; done) | exact Nat.le_refl _ | exact Nat.zero_le _ | (intro o ho; cases ho; done) | (intro o ho; simp only [List.mem_cons, List.mem_nil_iff, or_false] at ho; first | (subst ho; rfl) | (rcases ho with rfl | rfl <;> rfl) | (rcases ho with rfl | rfl | rfl <;> rfl)) | (intro i h; cases h; decide) | simp [alS])) (xo 0) (by rfl) (by exact bn "int" (by first | decide | (intro i h; cases h; done) | exact Nat.le_refl _ | exact Nat.zero_le _ | (intro o ho; cases ho; done) | (intro o ho; simp only [List.mem_cons, List.mem_nil_iff, or_false] at ho; first | (subst ho; rfl) | (rcases ho with rfl | rfl <;> rfl) | (rcases ho with rfl | rfl | rfl <;> rfl)) | (intro i h; cases h; decide) | simp [alS])) vb_int)) (vo_e (T := []) (k := 0) (f := opF (isiD "int") [odK 0 1]) (ve_isi (k := 0) (Ty := "int") (by first | decide | (intro i h; cases h; done) | exact Nat.le_refl _ | exact Nat.zero_le _ | (intro o ho; cases ho; done) | (intro o ho; simp only [List.mem_cons, List.mem_nil_iff, or_false] at ho; first | (subst ho; rfl) | (rcases ho with rfl | rfl <;> rfl) | (rcases ho with rfl | rfl | rfl <;> rfl)) | (intro i h; cases h; decide) | simp [alS]) (by rfl) (by exact bn "isinstance" (by first | decide | (intro i h; cases h; done) | exact Nat.le_refl _ | exact Nat.zero_le _ | (intro o ho; cases ho; done) | (intro o ho; simp only [List.mem_cons, List.mem_nil_iff, or_false] at ho; first | (subst ho; rfl) | (rcases ho with rfl | rfl <;> rfl) | (rcases ho with rfl | rfl | rfl <;> rfl)) | (intro i h; cases h; decide) | simp [alS])) (xo 1) (by rfl) (by exact bn "int" (by first | decide | (intro i h; cases h; done) | exact Nat.le_refl _ | exact Nat.zero_le _ | (intro o ho; cases ho; done) | (intro o ho; simp only [List.mem_cons, List.mem_nil_iff, or_false] at ho; first | (subst ho; rfl) | (rcases ho with rfl | rfl <;> rfl) | (rcases ho with rfl | rfl | rfl <;> rfl)) | (intro i h; cases h; decide) | simp [alS])) vb_int)) (by first | decide | (intro i h; cases h; done) | exact Nat.le_refl _ | exact Nat.zero_le _ | (intro o ho; cases ho; done) | (intro o ho; simp only [List.mem_cons, List.mem_nil_iff, or_false] at ho; first | (subst ho; rfl) | (rcases ho with rfl | rfl <;> rfl) | (rcases ho with rfl | rfl | rfl <;> rfl)) | (intro i h; cases h; decide) | simp [alS])) (ve_one (ve_cmp (op_eqA hu) (O_eq (k := 0)) (xo 0) (xo 1) (by first | decide | (intro i h; cases h; done) | exact Nat.le_refl _ | exact Nat.zero_le _ | (intro o ho; cases ho; done) | (intro o ho; simp only [List.mem_cons, List.mem_nil_iff, or_false] at ho; first | (subst ho; rfl) | (rcases ho with rfl | rfl <;> rfl) | (rcases ho with rfl | rfl | rfl <;> rfl)) | (intro i h; cases h; decide) | simp [alS]))))))   (vss_nil))))
    exact ⟨fa, fd, _, h, hm, F.kp, hb⟩
abbrev s_ulaw_flat : Stmt := topS 16
theorem sc_ulaw_flat : FnScope N_ulaw_flat ["rows"] (defScope s_ulaw_flat) := ⟨rfl, rfl, rfl, by decide +kernel, rfl, by decide +kernel, by decide +kernel⟩
theorem ok_ulaw_flat {P : Program} {w : World} {K : PySem.W.Frag} {mg : Str → Option Value} {base : Heap} {fa : Addr} {fd : FuncData} (F : Fun K "_law_flat" "_law_flat" s_ulaw_flat fa fd) (hm : mg "_law_flat" = some (.ref fa)) (hb : Binds K fd ["rows"] []) (bn : ∀ x, x ∈ bnames → mg x = none)  : CalD P w K mg base 1 "_law_flat" (spD ⟨K, P, w⟩ [] [0] 0 F_ulaw_flat) := by
  have h : FnOk P w K mg base CX0 1 fa fd ["rows"] (spD ⟨K, P, w⟩ [] [0] 0 (fnF [] N_ulaw_flat.length S_ulaw_flat)) := by
    refine fn_ok (lv := 0) (N := N_ulaw_flat) (κ' := [0, 0, 0]) (κp := [0]) (κl := [0, 0]) (Φ := []) (s := S_ulaw_flat) F sc_ulaw_flat rfl rfl (zero_out (by decide)) (fun cdv A outer s0 H E hr => ?_)
    have hu := hr.units
    have nd := sc_ulaw_flat.nd
    exact vss_cons (κ1 := [0, 0, 0]) (s := setS 1 (opF lstD []))   (vs_set (i := 1) (T := []) (j := 0) (f := opF lstD []) (by decide) (by decide) nd rfl (by first | exact Or.inl rfl | exact Or.inr rfl) (ve_share (k := 1) (ve_lst (O_lst (by decide)) (va_nil))))   (vss_cons (κ1 := [0, 0, 0]) (s := forS (seqSrc (rd 0)) (tgN 2) (ulaw_flat_b1))   (vs_for (T := []) (f := seqSrc (rd 0)) (m := tgN 2) PassesOwn.never rfl (vi_seq (xv 0)) (vg_name (i := 2) (κ' := [0, 0, 0]) (by decide) (by decide) rfl nd rfl (by first | exact Or.inl rfl | exact Or.inr rfl))  (vss_cons (κ1 := [0, 0, 0]) (s := setS 1 (opF addD [odK 0 1, odE [] 1 (opF listD [odK 0 2])]))   (vs_set (i := 1) (T := []) (j := 0) (f := opF addD [odK 0 1, odE [] 1 (opF listD [odK 0 2])]) (by decide) (by decide) nd rfl (by first | exact Or.inl rfl | exact Or.inr rfl) (ve_share (k := 1) (ve_bin op_addA (O_add (by decide) (by decide)) (xo 1) (vo_e (T := []) (k := 1) (f := opF listD [odK 0 2]) (ve_callTy call_list_of (O_list (by decide)) (by rfl) (by exact bn "list" (by decide)) vb_list (va_cons (xo 2) (va_nil) (by decide)))) (by decide))))   (vss_kill 2 0 (by decide) (vss_nil))))   (vss_cons (κ1 := [0, 0, 0]) (s := retS (rd 1))   (vs_ret (T := []) (f := rd 1) (xv 1))   (vss_nil)))
  exact ⟨fa, fd, _, h, hm, F.kp, hb⟩
abbrev s_ulaw_heaps : Stmt := topS 17
theorem sc_ulaw_heaps : FnScope N_ulaw_heaps ["a", "b", "c"] (defScope s_ulaw_heaps) := ⟨rfl, rfl, rfl, by decide +kernel, rfl, by decide +kernel, by decide +kernel⟩
theorem ok_ulaw_heaps {P : Program} {w : World} {K : PySem.W.Frag} {mg : Str → Option Value} {base : Heap} {fa : Addr} {fd : FuncData} (F : Fun K "_law_heaps" "_law_heaps" s_ulaw_heaps fa fd) (hm : mg "_law_heaps" = some (.ref fa)) (hb : Binds K fd ["a", "b", "c"] []) (bn : ∀ x, x ∈ bnames → mg x = none)  : CalD P w K mg base 1 "_law_heaps" (spD ⟨K, P, w⟩ [] [0, 0, 0] 0 F_ulaw_heaps) := by
  have h : FnOk P w K mg base CX0 1 fa fd ["a", "b", "c"] (spD ⟨K, P, w⟩ [] [0, 0, 0] 0 (fnF [] N_ulaw_heaps.length S_ulaw_heaps)) := by
    refine fn_ok (lv := 0) (N := N_ulaw_heaps) (κ' := [0, 0, 0, 0, 0, 0, 0, 0, 0, 0, 0]) (κp := [0, 0, 0]) (κl := [0, 0, 0, 0, 0, 0, 0, 0]) (Φ := []) (s := S_ulaw_heaps) F sc_ulaw_heaps rfl rfl (zero_out (by decide)) (fun cdv A outer s0 H E hr => ?_)
    have hu := hr.units
    have nd := sc_ulaw_heaps.nd
    exact vss_cons (κ1 := [0, 0, 0, 0, 0, 0, 0, 0, 0, 0, 0]) (s := setS 3 (opF lstD [odE [] 0 (opF tupD [])]))   (vs_set (i := 3) (T := []) (j := 0) (f := opF lstD [odE [] 0 (opF tupD [])]) (by decide) (by decide) nd rfl (by first | exact Or.inl rfl | exact Or.inr rfl) (ve_share (k := 1) (ve_lst (O_lst (by decide)) (va_cons (vo_e (T := []) (k := 0) (f := opF tupD []) (ve_tup (O_tup (k := 0) (by decide)) (va_nil))) (va_nil) (by decide)))))   (vss_cons (κ1 := [0, 0, 0, 0, 0, 0, 0, 0, 0, 0, 0]) (s := forS (rng1 [odK 0 1]) (tgN 4) (ulaw_heaps_b2))   (vs_for (T := []) (f := rng1 [odK 0 1]) (m := tgN 4) PassesOwn.never rfl (vi_rng1 (by rfl) (by exact bn "range" (by decide)) (va_cons (xo 1) (va_nil) (by decide))) (vg_name (i := 4) (κ' := [0, 0, 0, 0, 0, 0, 0, 0, 0, 0, 0]) (by decide) (by decide) rfl nd rfl (by first | exact Or.inl rfl | exact Or.inr rfl))  (vss_cons (κ1 := [0, 0, 0, 0, 0, 0, 0, 0, 0, 0, 0]) (s := setS 6 (opF lstD []))   (vs_set (i := 6) (T := []) (j := 0) (f := opF lstD []) (by decide) (by decide) nd rfl (by first | exact Or.inl rfl | exact Or.inr rfl) (ve_share (k := 1) (ve_lst (O_lst (by decide)) (va_nil))))   (vss_kill 4 0 (by decide) (vss_cons (κ1 := [0, 0, 0, 0, 0, 0, 0, 0, 0, 0, 0]) (s := forS (seqSrc (rd 3)) (tgN 7) (ulaw_heaps_b1))   (vs_for (T := []) (f := seqSrc (rd 3)) (m := tgN 7) PassesOwn.never rfl (vi_seq (xv 3)) (vg_name (i := 7) (κ' := [0, 0, 0, 0, 0, 0, 0, 0, 0, 0, 0]) (by decide) (by decide) rfl nd rfl (by first | exact Or.inl rfl | exact Or.inr rfl))  (vss_cons (κ1 := [0, 0, 0, 0, 0, 0, 0, 0, 0, 0, 0]) (s := setS 6 (opF addD [odK 0 6, odE [] 1 (ulaw_heaps_c1)]))   (vs_set (i := 6) (T := []) (j := 0) (f := opF addD [odK 0 6, odE [] 1 (ulaw_heaps_c1)]) (by decide) (by decide) nd rfl (by first | exact Or.inl rfl | exact Or.inr rfl) (ve_share (k := 1) (ve_bin op_addA (O_add (by decide) (by decide)) (xo 6) (vo_e (T := []) (k := 1) (f := ulaw_heaps_c1) (ve_lc (κ := [0, 0, 0, 0, 0, 0, 0, 0, 0, 0, 0]) (T0 := []) (T1 := []) (T2 := []) (k := 0) (Φc := [0, 1, 2, 3, 4, 5, 6, 7, 8, 10]) [] [("entry", 9)] (by decide) (by decide) (by decide) (by decide) (by decide) (by decide) rfl nd (vi_rng1 (by rfl) (by exact bn "range" (by decide)) (va_cons (vo_e (T := []) (k := 1) (f := opF addD [odK 0 2, odE [] 0 (cF (.int 1))]) (ve_bin op_addA (O_add (by decide) (by decide)) (xo 2) (vo_e (T := []) (k := 0) (f := cF (.int 1)) (ve_int (k := 0))) (by decide))) (va_nil) (by decide))) (blkOk_by (by kernel_rfl)) (fun s0 H0 C0 cl0 fp0 => vg_name (i := 9) (κ' := [0, 0, 0, 0, 0, 0, 0, 0, 0, 0, 0]) (by decide) (by decide) rfl nd rfl (by first | exact Or.inl rfl | exact Or.inr rfl)) (fun s0 H0 C0 cl0 fp0 => vts_one ((vw_or (vt_cmp (op_eqA hu) (O_eq ) (xo 7) (vo_e (T := []) (k := 0) (f := opF tupD []) (ve_tup (O_tup (k := 0) (by decide)) (va_nil))) (by decide)) (vw_or1 (vt_cmp op_le (O_le ) (xo 9) (vo_e (T := []) (k := 0) (f := opF ixD [odK 0 7, odE [] 0 (opF subD [odE [] 0 (opF lenD [odK 0 7]), odE [] 0 (cF (.int 1))])]) (ve_ix ix_seq (O_ix (by decide)) (xo 7) (vo_e (T := []) (k := 0) (f := opF subD [odE [] 0 (opF lenD [odK 0 7]), odE [] 0 (cF (.int 1))]) (ve_bin op_sub (O_sub (k := 0)) (vo_e (T := []) (k := 0) (f := opF lenD [odK 0 7]) (ve_callB call_len (O_len (k := 0)) (by rfl) (by exact bn "len" (by decide)) vb_len (va_cons (xo 7) (va_nil) (by decide)))) (vo_e (T := []) (k := 0) (f := cF (.int 1)) (ve_int (k := 0))) (by decide))) (by decide))) (by decide)))).pt)) (fun s0 H0 C0 cl0 fp0 => ve_share (k := 1) (ve_bin op_addA (O_add (by decide) (by decide)) (xo 7) (vo_e (T := []) (k := 0) (f := opF tupD [odE [] 0 (rd 9)]) (ve_tup (O_tup (k := 0) (by decide)) (va_cons (vo_e (T := []) (k := 0) (f := rd 9) (xv 9)) (va_nil) (by decide)))) (by decide))))) (by decide))))   (vss_kill 7 0 (by decide) (vss_nil))))   (vss_cons (κ1 := [0, 0, 0, 0, 0, 0, 0, 0, 0, 0, 0]) (s := setS 3 (rd 6))   (vs_set (i := 3) (T := []) (j := 0) (f := rd 6) (by decide) (by decide) nd rfl (by first | exact Or.inl rfl | exact Or.inr rfl) (xv 6))   (vss_kill 6 0 (by decide) (vss_nil)))))))   (vss_cons (κ1 := [0, 0, 0, 0, 0, 0, 0, 0, 0, 0, 0]) (s := setS 5 (opF lstD [odE [] 0 (opF tupD [])]))   (vs_set (i := 5) (T := []) (j := 0) (f := opF lstD [odE [] 0 (opF tupD [])]) (by decide) (by decide) nd rfl (by first | exact Or.inl rfl | exact Or.inr rfl) (ve_share (k := 1) (ve_lst (O_lst (by decide)) (va_cons (vo_e (T := []) (k := 0) (f := opF tupD []) (ve_tup (O_tup (k := 0) (by decide)) (va_nil))) (va_nil) (by decide)))))   (vss_cons (κ1 := [0, 0, 0, 0, 0, 0, 0, 0, 0, 0, 0]) (s := forS (rng1 [odK 0 0]) (tgN 4) (ulaw_heaps_b4))   (vs_for (T := []) (f := rng1 [odK 0 0]) (m := tgN 4) PassesOwn.never rfl (vi_rng1 (by rfl) (by exact bn "range" (by decide)) (va_cons (xo 0) (va_nil) (by decide))) (vg_name (i := 4) (κ' := [0, 0, 0, 0, 0, 0, 0, 0, 0, 0, 0]) (by decide) (by decide) rfl nd rfl (by first | exact Or.inl rfl | exact Or.inr rfl))  (vss_cons (κ1 := [0, 0, 0, 0, 0, 0, 0, 0, 0, 0, 0]) (s := setS 6 (opF lstD []))   (vs_set (i := 6) (T := []) (j := 0) (f := opF lstD []) (by decide) (by decide) nd rfl (by first | exact Or.inl rfl | exact Or.inr rfl) (ve_share (k := 1) (ve_lst (O_lst (by decide)) (va_nil))))   (vss_kill 4 0 (by decide) (vss_cons (κ1 := [0, 0, 0, 0, 0, 0, 0, 0, 0, 0, 0]) (s := forS (seqSrc (rd 5)) (tgN 8) (ulaw_heaps_b3))   (vs_for (T := []) (f := seqSrc (rd 5)) (m := tgN 8) PassesOwn.never rfl (vi_seq (xv 5)) (vg_name (i := 8) (κ' := [0, 0, 0, 0, 0, 0, 0, 0, 0, 0, 0]) (by decide) (by decide) rfl nd rfl (by first | exact Or.inl rfl | exact Or.inr rfl))  (vss_cons (κ1 := [0, 0, 0, 0, 0, 0, 0, 0, 0, 0, 0]) (s := setS 6 (opF addD [odK 0 6, odE [] 1 (ulaw_heaps_c3)]))   (vs_set (i := 6) (T := []) (j := 0) (f := opF addD [odK 0 6, odE [] 1 (ulaw_heaps_c3)]) (by decide) (by decide) nd rfl (by first | exact Or.inl rfl | exact Or.inr rfl) (ve_share (k := 1) (ve_bin op_addA (O_add (by decide) (by decide)) (xo 6) (vo_e (T := []) (k := 1) (f := ulaw_heaps_c3) (ve_lc (κ := [0, 0, 0, 0, 0, 0, 0, 0, 0, 0, 0]) (T0 := []) (T1 := []) (T2 := []) (k := 0) (Φc := [0, 1, 2, 3, 4, 5, 6, 8, 9, 10]) [] [("line", 7)] (by decide) (by decide) (by decide) (by decide) (by decide) (by decide) rfl nd (vi_seq (xv 3)) (blkOk_by (by kernel_rfl)) (fun s0 H0 C0 cl0 fp0 => vg_name (i := 7) (κ' := [0, 0, 0, 0, 0, 0, 0, 0, 0, 0, 0]) (by decide) (by decide) rfl nd rfl (by first | exact Or.inl rfl | exact Or.inr rfl)) (fun s0 H0 C0 cl0 fp0 => vts_one ((vw_or (vt_cmp (op_eqA hu) (O_eq ) (xo 8) (vo_e (T := []) (k := 0) (f := opF tupD []) (ve_tup (O_tup (k := 0) (by decide)) (va_nil))) (by decide)) (vw_or1 (vt_tru (vo_e (T := []) (k := 0) (f := opF allD [odE [] 1 (ulaw_heaps_c2)]) (ve_callB (cr_all rfl) (O_all (k := 0) (by decide)) (by rfl) (by exact bn "all" (by decide)) vb_all (va_cons (vo_e (T := []) (k := 1) (f := ulaw_heaps_c2) (ve_lc (κ := [0, 0, 0, 0, 0, 0, 0, 0, 0, 0, 0]) (T0 := []) (T1 := []) (T2 := []) (k := 0) (Φc := [0, 1, 2, 3, 4, 5, 6, 7, 8, 9]) [] [("j", 10)] (by decide) (by decide) (by decide) (by decide) (by decide) (by decide) rfl nd (vi_rng1 (by rfl) (by exact bn "range" (by decide)) (va_cons (xo 1) (va_nil) (by decide))) (blkOk_by (by kernel_rfl)) (fun s0 H0 C0 cl0 fp0 => vg_name (i := 10) (κ' := [0, 0, 0, 0, 0, 0, 0, 0, 0, 0, 0]) (by decide) (by decide) rfl nd rfl (by first | exact Or.inl rfl | exact Or.inr rfl)) (fun s0 H0 C0 cl0 fp0 => vts_nil) (fun s0 H0 C0 cl0 fp0 => ve_cmp op_le (O_le (k := 0)) (vo_e (T := []) (k := 0) (f := opF ixD [odK 0 7, odK 0 10]) (ve_ix ix_seq (O_ix (by decide)) (xo 7) (xo 10) (by decide))) (vo_e (T := []) (k := 0) (f := opF ixD [odE [] 0 (opF ixD [odK 0 8, odE [] 0 (opF subD [odE [] 0 (opF lenD [odK 0 8]), odE [] 0 (cF (.int 1))])]), odK 0 10]) (ve_ix ix_seq (O_ix (by decide)) (vo_e (T := []) (k := 0) (f := opF ixD [odK 0 8, odE [] 0 (opF subD [odE [] 0 (opF lenD [odK 0 8]), odE [] 0 (cF (.int 1))])]) (ve_ix ix_seq (O_ix (by decide)) (xo 8) (vo_e (T := []) (k := 0) (f := opF subD [odE [] 0 (opF lenD [odK 0 8]), odE [] 0 (cF (.int 1))]) (ve_bin op_sub (O_sub (k := 0)) (vo_e (T := []) (k := 0) (f := opF lenD [odK 0 8]) (ve_callB call_len (O_len (k := 0)) (by rfl) (by exact bn "len" (by decide)) vb_len (va_cons (xo 8) (va_nil) (by decide)))) (vo_e (T := []) (k := 0) (f := cF (.int 1)) (ve_int (k := 0))) (by decide))) (by decide))) (xo 10) (by decide))) (by decide)))) (va_nil) (by decide))))))).pt)) (fun s0 H0 C0 cl0 fp0 => ve_share (k := 1) (ve_bin op_addA (O_add (by decide) (by decide)) (xo 8) (vo_e (T := []) (k := 0) (f := opF tupD [odE [] 0 (rd 7)]) (ve_tup (O_tup (k := 0) (by decide)) (va_cons (vo_e (T := []) (k := 0) (f := rd 7) (xv 7)) (va_nil) (by decide)))) (by decide))))) (by decide))))   (vss_kill 8 0 (by decide) (vss_nil))))   (vss_cons (κ1 := [0, 0, 0, 0, 0, 0, 0, 0, 0, 0, 0]) (s := setS 5 (rd 6))   (vs_set (i := 5) (T := []) (j := 0) (f := rd 6) (by decide) (by decide) nd rfl (by first | exact Or.inl rfl | exact Or.inr rfl) (xv 6))   (vss_kill 6 0 (by decide) (vss_nil)))))))   (vss_kill 3 0 (by decide) (vss_cons (κ1 := [0, 0, 0, 0, 0, 0, 0, 0, 0, 0, 0]) (s := retS (opF (sortedD false) [odK 0 5]))   (vs_ret (T := []) (f := opF (sortedD false) [odK 0 5]) (ve_share (k := 1) (ve_callB (cr_sortA hu) (O_sorted (by decide)) (by rfl) (by exact bn "sorted" (by decide)) vb_sorted (va_cons (xo 5) (va_nil) (by decide)))))   (vss_nil))))))
  exact ⟨fa, fd, _, h, hm, F.kp, hb⟩
abbrev s_ulaw_box : Stmt := topS 18
theorem sc_ulaw_box : FnScope N_ulaw_box ["state", "script"] (defScope s_ulaw_box) := ⟨rfl, rfl, rfl, by decide +kernel, rfl, by decide +kernel, by decide +kernel⟩
theorem ok_ulaw_box {P : Program} {w : World} {K : PySem.W.Frag} {mg : Str → Option Value} {base : Heap} {fa : Addr} {fd : FuncData} (F : Fun K "_law_box" "_law_box" s_ulaw_box fa fd) (hm : mg "_law_box" = some (.ref fa)) (hb : Binds K fd ["state", "script"] []) (C_ulaw_draw : CalD P w K mg base 2 "_law_draw" (spD ⟨K, P, w⟩ [0] [1, 0, 0] 0 F_ulaw_draw)) : CalD P w K mg base 3 "_law_box" (spD ⟨K, P, w⟩ [0] [1, 0] 0 F_ulaw_box) := by
  have h : FnOk P w K mg base CX0 3 fa fd ["state", "script"] (spD ⟨K, P, w⟩ [0] [1, 0] 0 (fnF [0] N_ulaw_box.length S_ulaw_box)) := by
    refine fn_ok (lv := 2) (N := N_ulaw_box) (κ' := [1, 0]) (κp := [1, 0]) (κl := []) (Φ := [0]) (s := S_ulaw_box) F sc_ulaw_box rfl rfl (zero_out (by decide)) (fun cdv A outer s0 H E hr => ?_)
    have hu := hr.units
    have nd := sc_ulaw_box.nd
    exact vss_cons (κ1 := [1, 0]) (s := retS (opF ixD [odE [] 1 (opF lstD [odE [] 0 (opF tupD [odE [] 0 (cF (.int 1)), odE [] 0 (cF (.int 1)), odE [] 0 (cF (.int 3))]), odE [] 0 (opF tupD [odE [] 0 (cF (.int 1)), odE [] 0 (cF (.int 3)), odE [] 0 (cF (.int 2))]), odE [] 0 (opF tupD [odE [] 0 (cF (.int 2)), odE [] 0 (cF (.int 1)), odE [] 0 (cF (.int 4))]), odE [] 0 (opF tupD [odE [] 0 (cF (.int 2)), odE [] 0 (cF (.int 2)), odE [] 0 (cF (.int 2))]), odE [] 0 (opF tupD [odE [] 0 (cF (.int 2)), odE [] 0 (cF (.int 2)), odE [] 0 (cF (.int 3))]), odE [] 0 (opF tupD [odE [] 0 (cF (.int 3)), odE [] 0 (cF (.int 2)), odE [] 0 (cF (.int 2))]), odE [] 0 (opF tupD [odE [] 0 (cF (.int 2)), odE [] 0 (cF (.int 3)), odE [] 0 (cF (.int 2))]), odE [] 0 (opF tupD [odE [] 0 (cF (.int 3)), odE [] 0 (cF (.int 3)), odE [] 0 (cF (.int 1))]), odE [] 0 (opF tupD [odE [] 0 (cF (.int 2)), odE [] 0 (cF (.int 2)), odE [] 0 (cF (.int 4))]), odE [] 0 (opF tupD [odE [] 0 (cF (.int 3)), odE [] 0 (cF (.int 1)), odE [] 0 (cF (.int 3))]), odE [] 0 (opF tupD [odE [] 0 (cF (.int 1)), odE [] 0 (cF (.int 4)), odE [] 0 (cF (.int 3))]), odE [] 0 (opF tupD [odE [] 0 (cF (.int 3)), odE [] 0 (cF (.int 3)), odE [] 0 (cF (.int 2))])]), odE [0] 0 (callF [odK 1 0, odE [] 0 (rd 1), odE [] 0 (cF (.int 12))] F_ulaw_draw)]))   (vs_ret (T := [0]) (f := opF ixD [odE [] 1 (opF lstD [odE [] 0 (opF tupD [odE [] 0 (cF (.int 1)), odE [] 0 (cF (.int 1)), odE [] 0 (cF (.int 3))]), odE [] 0 (opF tupD [odE [] 0 (cF (.int 1)), odE [] 0 (cF (.int 3)), odE [] 0 (cF (.int 2))]), odE [] 0 (opF tupD [odE [] 0 (cF (.int 2)), odE [] 0 (cF (.int 1)), odE [] 0 (cF (.int 4))]), odE [] 0 (opF tupD [odE [] 0 (cF (.int 2)), odE [] 0 (cF (.int 2)), odE [] 0 (cF (.int 2))]), odE [] 0 (opF tupD [odE [] 0 (cF (.int 2)), odE [] 0 (cF (.int 2)), odE [] 0 (cF (.int 3))]), odE [] 0 (opF tupD [odE [] 0 (cF (.int 3)), odE [] 0 (cF (.int 2)), odE [] 0 (cF (.int 2))]), odE [] 0 (opF tupD [odE [] 0 (cF (.int 2)), odE [] 0 (cF (.int 3)), odE [] 0 (cF (.int 2))]), odE [] 0 (opF tupD [odE [] 0 (cF (.int 3)), odE [] 0 (cF (.int 3)), odE [] 0 (cF (.int 1))]), odE [] 0 (opF tupD [odE [] 0 (cF (.int 2)), odE [] 0 (cF (.int 2)), odE [] 0 (cF (.int 4))]), odE [] 0 (opF tupD [odE [] 0 (cF (.int 3)), odE [] 0 (cF (.int 1)), odE [] 0 (cF (.int 3))]), odE [] 0 (opF tupD [odE [] 0 (cF (.int 1)), odE [] 0 (cF (.int 4)), odE [] 0 (cF (.int 3))]), odE [] 0 (opF tupD [odE [] 0 (cF (.int 3)), odE [] 0 (cF (.int 3)), odE [] 0 (cF (.int 2))])]), odE [0] 0 (callF [odK 1 0, odE [] 0 (rd 1), odE [] 0 (cF (.int 12))] F_ulaw_draw)]) (ve_ix ix_seq (O_ix (by decide)) (vo_e (T := []) (k := 1) (f := opF lstD [odE [] 0 (opF tupD [odE [] 0 (cF (.int 1)), odE [] 0 (cF (.int 1)), odE [] 0 (cF (.int 3))]), odE [] 0 (opF tupD [odE [] 0 (cF (.int 1)), odE [] 0 (cF (.int 3)), odE [] 0 (cF (.int 2))]), odE [] 0 (opF tupD [odE [] 0 (cF (.int 2)), odE [] 0 (cF (.int 1)), odE [] 0 (cF (.int 4))]), odE [] 0 (opF tupD [odE [] 0 (cF (.int 2)), odE [] 0 (cF (.int 2)), odE [] 0 (cF (.int 2))]), odE [] 0 (opF tupD [odE [] 0 (cF (.int 2)), odE [] 0 (cF (.int 2)), odE [] 0 (cF (.int 3))]), odE [] 0 (opF tupD [odE [] 0 (cF (.int 3)), odE [] 0 (cF (.int 2)), odE [] 0 (cF (.int 2))]), odE [] 0 (opF tupD [odE [] 0 (cF (.int 2)), odE [] 0 (cF (.int 3)), odE [] 0 (cF (.int 2))]), odE [] 0 (opF tupD [odE [] 0 (cF (.int 3)), odE [] 0 (cF (.int 3)), odE [] 0 (cF (.int 1))]), odE [] 0 (opF tupD [odE [] 0 (cF (.int 2)), odE [] 0 (cF (.int 2)), odE [] 0 (cF (.int 4))]), odE [] 0 (opF tupD [odE [] 0 (cF (.int 3)), odE [] 0 (cF (.int 1)), odE [] 0 (cF (.int 3))]), odE [] 0 (opF tupD [odE [] 0 (cF (.int 1)), odE [] 0 (cF (.int 4)), odE [] 0 (cF (.int 3))]), odE [] 0 (opF tupD [odE [] 0 (cF (.int 3)), odE [] 0 (cF (.int 3)), odE [] 0 (cF (.int 2))])]) (ve_lst (O_lst (by decide)) (va_cons (vo_e (T := []) (k := 0) (f := opF tupD [odE [] 0 (cF (.int 1)), odE [] 0 (cF (.int 1)), odE [] 0 (cF (.int 3))]) (ve_tup (O_tup (k := 0) (by decide)) (va_cons (vo_e (T := []) (k := 0) (f := cF (.int 1)) (ve_int (k := 0))) (va_cons (vo_e (T := []) (k := 0) (f := cF (.int 1)) (ve_int (k := 0))) (va_cons (vo_e (T := []) (k := 0) (f := cF (.int 3)) (ve_int (k := 0))) (va_nil) (by decide)) (by decide)) (by decide)))) (va_cons (vo_e (T := []) (k := 0) (f := opF tupD [odE [] 0 (cF (.int 1)), odE [] 0 (cF (.int 3)), odE [] 0 (cF (.int 2))]) (ve_tup (O_tup (k := 0) (by decide)) (va_cons (vo_e (T := []) (k := 0) (f := cF (.int 1)) (ve_int (k := 0))) (va_cons (vo_e (T := []) (k := 0) (f := cF (.int 3)) (ve_int (k := 0))) (va_cons (vo_e (T := []) (k := 0) (f := cF (.int 2)) (ve_int (k := 0))) (va_nil) (by decide)) (by decide)) (by decide)))) (va_cons (vo_e (T := []) (k := 0) (f := opF tupD [odE [] 0 (cF (.int 2)), odE [] 0 (cF (.int 1)), odE [] 0 (cF (.int 4))]) (ve_tup (O_tup (k := 0) (by decide)) (va_cons (vo_e (T := []) (k := 0) (f := cF (.int 2)) (ve_int (k := 0))) (va_cons (vo_e (T := []) (k := 0) (f := cF (.int 1)) (ve_int (k := 0))) (va_cons (vo_e (T := []) (k := 0) (f := cF (.int 4)) (ve_int (k := 0))) (va_nil) (by decide)) (by decide)) (by decide)))) (va_cons (vo_e (T := []) (k := 0) (f := opF tupD [odE [] 0 (cF (.int 2)), odE [] 0 (cF (.int 2)), odE [] 0 (cF (.int 2))]) (ve_tup (O_tup (k := 0) (by decide)) (va_cons (vo_e (T := []) (k := 0) (f := cF (.int 2)) (ve_int (k := 0))) (va_cons (vo_e (T := []) (k := 0) (f := cF (.int 2)) (ve_int (k := 0))) (va_cons (vo_e (T := []) (k := 0) (f := cF (.int 2)) (ve_int (k := 0))) (va_nil) (by decide)) (by decide)) (by decide)))) (va_cons (vo_e (T := []) (k := 0) (f := opF tupD [odE [] 0 (cF (.int 2)), odE [] 0 (cF (.int 2)), odE [] 0 (cF (.int 3))]) (ve_tup (O_tup (k := 0) (by decide)) (va_cons (vo_e (T := []) (k := 0) (f := cF (.int 2)) (ve_int (k := 0))) (va_cons (vo_e (T := []) (k := 0) (f := cF (.int 2)) (ve_int (k := 0))) (va_cons (vo_e (T := []) (k := 0) (f := cF (.int 3)) (ve_int (k := 0))) (va_nil) (by decide)) (by decide)) (by decide)))) (va_cons (vo_e (T := []) (k := 0) (f := opF tupD [odE [] 0 (cF (.int 3)), odE [] 0 (cF (.int 2)), odE [] 0 (cF (.int 2))]) (ve_tup (O_tup (k := 0) (by decide)) (va_cons (vo_e (T := []) (k := 0) (f := cF (.int 3)) (ve_int (k := 0))) (va_cons (vo_e (T := []) (k := 0) (f := cF (.int 2)) (ve_int (k := 0))) (va_cons (vo_e (T := []) (k := 0) (f := cF (.int 2)) (ve_int (k := 0))) (va_nil) (by decide)) (by decide)) (by decide)))) (va_cons (vo_e (T := []) (k := 0) (f := opF tupD [odE [] 0 (cF (.int 2)), odE [] 0 (cF (.int 3)), odE [] 0 (cF (.int 2))]) (ve_tup (O_tup (k := 0) (by decide)) (va_cons (vo_e (T := []) (k := 0) (f := cF (.int 2)) (ve_int (k := 0))) (va_cons (vo_e (T := []) (k := 0) (f := cF (.int 3)) (ve_int (k := 0))) (va_cons (vo_e (T := []) (k := 0) (f := cF (.int 2)) (ve_int (k := 0))) (va_nil) (by decide)) (by decide)) (by decide)))) (va_cons (vo_e (T := []) (k := 0) (f := opF tupD [odE [] 0 (cF (.int 3)), odE [] 0 (cF (.int 3)), odE [] 0 (cF (.int 1))]) (ve_tup (O_tup (k := 0) (by decide)) (va_cons (vo_e (T := []) (k := 0) (f := cF (.int 3)) (ve_int (k := 0))) (va_cons (vo_e (T := []) (k := 0) (f := cF (.int 3)) (ve_int (k := 0))) (va_cons (vo_e (T := []) (k := 0) (f := cF (.int 1)) (ve_int (k := 0))) (va_nil) (by decide)) (by decide)) (by decide)))) (va_cons (vo_e (T := []) (k := 0) (f := opF tupD [odE [] 0 (cF (.int 2)), odE [] 0 (cF (.int 2)), odE [] 0 (cF (.int 4))]) (ve_tup (O_tup (k := 0) (by decide)) (va_cons (vo_e (T := []) (k := 0) (f := cF (.int 2)) (ve_int (k := 0))) (va_cons (vo_e (T := []) (k := 0) (f := cF (.int 2)) (ve_int (k := 0))) (va_cons (vo_e (T := []) (k := 0) (f := cF (.int 4)) (ve_int (k := 0))) (va_nil) (by decide)) (by decide)) (by decide)))) (va_cons (vo_e (T := []) (k := 0) (f := opF tupD [odE [] 0 (cF (.int 3)), odE [] 0 (cF (.int 1)), odE [] 0 (cF (.int 3))]) (ve_tup (O_tup (k := 0) (by decide)) (va_cons (vo_e (T := []) (k := 0) (f := cF (.int 3)) (ve_int (k := 0))) (va_cons (vo_e (T := []) (k := 0) (f := cF (.int 1)) (ve_int (k := 0))) (va_cons (vo_e (T := []) (k := 0) (f := cF (.int 3)) (ve_int (k := 0))) (va_nil) (by decide)) (by decide)) (by decide)))) (va_cons (vo_e (T := []) (k := 0) (f := opF tupD [odE [] 0 (cF (.int 1)), odE [] 0 (cF (.int 4)), odE [] 0 (cF (.int 3))]) (ve_tup (O_tup (k := 0) (by decide)) (va_cons (vo_e (T := []) (k := 0) (f := cF (.int 1)) (ve_int (k := 0))) (va_cons (vo_e (T := []) (k := 0) (f := cF (.int 4)) (ve_int (k := 0))) (va_cons (vo_e (T := []) (k := 0) (f := cF (.int 3)) (ve_int (k := 0))) (va_nil) (by decide)) (by decide)) (by decide)))) (va_cons (vo_e (T := []) (k := 0) (f := opF tupD [odE [] 0 (cF (.int 3)), odE [] 0 (cF (.int 3)), odE [] 0 (cF (.int 2))]) (ve_tup (O_tup (k := 0) (by decide)) (va_cons (vo_e (T := []) (k := 0) (f := cF (.int 3)) (ve_int (k := 0))) (va_cons (vo_e (T := []) (k := 0) (f := cF (.int 3)) (ve_int (k := 0))) (va_cons (vo_e (T := []) (k := 0) (f := cF (.int 2)) (ve_int (k := 0))) (va_nil) (by decide)) (by decide)) (by decide)))) (va_nil) (by decide)) (by decide)) (by decide)) (by decide)) (by decide)) (by decide)) (by decide)) (by decide)) (by decide)) (by decide)) (by decide)) (by decide)))) (vo_e (T := [0]) (k := 0) (f := callF [odK 1 0, odE [] 0 (rd 1), odE [] 0 (cF (.int 12))] F_ulaw_draw) (ve_fn (k := 0) (fn := F_ulaw_draw) (C_ulaw_draw.mono (by decide)) hr (va_cons (xo 0) (va_cons (vo_e (T := []) (k := 0) (f := rd 1) (xv 1)) (va_cons (vo_e (T := []) (k := 0) (f := cF (.int 12)) (ve_int (k := 0))) (va_nil) (by decide)) (by decide)) (by decide)))) (by decide)))   (vss_nil)
  exact ⟨fa, fd, _, h, hm, F.kp, hb⟩
abbrev s_ulaw_heap : Stmt := topS 19
theorem sc_ulaw_heap : FnScope N_ulaw_heap ["state", "script", "a", "b", "c"] (defScope s_ulaw_heap) := ⟨rfl, rfl, rfl, by decide +kernel, rfl, by decide +kernel, by decide +kernel⟩
theorem ok_ulaw_heap {P : Program} {w : World} {K : PySem.W.Frag} {mg : Str → Option Value} {base : Heap} {fa : Addr} {fd : FuncData} (F : Fun K "_law_heap" "_law_heap" s_ulaw_heap fa fd) (hm : mg "_law_heap" = some (.ref fa)) (hb : Binds K fd ["state", "script", "a", "b", "c"] []) (bn : ∀ x, x ∈ bnames → mg x = none) (C_ulaw_draw : CalD P w K mg base 2 "_law_draw" (spD ⟨K, P, w⟩ [0] [1, 0, 0] 0 F_ulaw_draw)) : CalD P w K mg base 3 "_law_heap" (spD ⟨K, P, w⟩ [0] [1, 0, 0, 0, 0] 0 F_ulaw_heap) := by
  have h : FnOk P w K mg base CX0 3 fa fd ["state", "script", "a", "b", "c"] (spD ⟨K, P, w⟩ [0] [1, 0, 0, 0, 0] 0 (fnF [0] N_ulaw_heap.length S_ulaw_heap)) := by
    refine fn_ok (lv := 2) (N := N_ulaw_heap) (κ' := [1, 0, 0, 0, 0, 1, 0, 0, 0, 0]) (κp := [1, 0, 0, 0, 0]) (κl := [0, 0, 0, 0, 0]) (Φ := [0]) (s := S_ulaw_heap) F sc_ulaw_heap rfl rfl (zero_out (by decide)) (fun cdv A outer s0 H E hr => ?_)
    have hu := hr.units
    have nd := sc_ulaw_heap.nd
    exact vss_cons (κ1 := [1, 0, 0, 0, 0, 1, 0, 0, 0, 0]) (s := setS 5 (opF lstD []))   (vs_set (i := 5) (T := []) (j := 1) (f := opF lstD []) (by decide) (by decide) nd rfl (by first | exact Or.inl rfl | exact Or.inr rfl) (ve_lst (O_lst (by decide)) (va_nil)))   (vss_cons (κ1 := [1, 0, 0, 0, 0, 1, 0, 0, 0, 0]) (s := forS (rng1 [odK 0 2]) (tgN 6) (ulaw_heap_b2))   (vs_for (T := []) (f := rng1 [odK 0 2]) (m := tgN 6) PassesOwn.never rfl (vi_rng1 (by rfl) (by exact bn "range" (by decide)) (va_cons (xo 2) (va_nil) (by decide))) (vg_name (i := 6) (κ' := [1, 0, 0, 0, 0, 1, 0, 0, 0, 0]) (by decide) (by decide) rfl nd rfl (by first | exact Or.inl rfl | exact Or.inr rfl))  (vss_cons (κ1 := [1, 0, 0, 0, 0, 1, 0, 1, 0, 0]) (s := setS 7 (opF lstD []))   (vs_set (i := 7) (T := []) (j := 1) (f := opF lstD []) (by decide) (by decide) nd rfl (by first | exact Or.inl rfl | exact Or.inr rfl) (ve_lst (O_lst (by decide)) (va_nil)))   (vss_cons (κ1 := [1, 0, 0, 0, 0, 1, 0, 1, 0, 0]) (s := forS (rng1 [odK 0 3]) (tgN 8) (ulaw_heap_b1))   (vs_for (T := []) (f := rng1 [odK 0 3]) (m := tgN 8) PassesOwn.never rfl (vi_rng1 (by rfl) (by exact bn "range" (by decide)) (va_cons (xo 3) (va_nil) (by decide))) (vg_name (i := 8) (κ' := [1, 0, 0, 0, 0, 1, 0, 1, 0, 0]) (by decide) (by decide) rfl nd rfl (by first | exact Or.inl rfl | exact Or.inr rfl))  (vss_cons (κ1 := [1, 0, 0, 0, 0, 1, 0, 1, 0, 0]) (s := setS 9 (ifF (tstF (opF eqD [odK 0 6, odE [] 0 (cF (.int 0))])) (rd 4) (opF ixD [odE [] 0 (opF ixD [odK 1 5, odE [] 0 (opF subD [odK 0 6, odE [] 0 (cF (.int 1))])]), odK 0 8])))   (vs_set (i := 9) (T := []) (j := 0) (f := ifF (tstF (opF eqD [odK 0 6, odE [] 0 (cF (.int 0))])) (rd 4) (opF ixD [odE [] 0 (opF ixD [odK 1 5, odE [] 0 (opF subD [odK 0 6, odE [] 0 (cF (.int 1))])]), odK 0 8])) (by decide) (by decide) nd rfl (by first | exact Or.inl rfl | exact Or.inr rfl) (ve_if (k := 0) (vt_cmp (op_eqA hu) (O_eq ) (xo 6) (vo_e (T := []) (k := 0) (f := cF (.int 0)) (ve_int (k := 0))) (by decide)) (xv 4) (ve_ix ix_seq (O_ix (by decide)) (vo_e (T := []) (k := 0) (f := opF ixD [odK 1 5, odE [] 0 (opF subD [odK 0 6, odE [] 0 (cF (.int 1))])]) (ve_ix ix_seq (O_ix (by decide)) (xo 5) (vo_e (T := []) (k := 0) (f := opF subD [odK 0 6, odE [] 0 (cF (.int 1))]) (ve_bin op_sub (O_sub (k := 0)) (xo 6) (vo_e (T := []) (k := 0) (f := cF (.int 1)) (ve_int (k := 0))) (by decide))) (by decide))) (xo 8) (by decide))))   (vss_cons (κ1 := [1, 0, 0, 0, 0, 1, 0, 1, 0, 0]) (s := setS 9 (ifF (tstF (opF eqD [odK 0 8, odE [] 0 (cF (.int 0))])) (rd 9) (opF min2D [odK 0 9, odE [] 0 (opF ixD [odK 1 7, odE [] 0 (opF subD [odK 0 8, odE [] 0 (cF (.int 1))])])])))   (vs_set (i := 9) (T := []) (j := 0) (f := ifF (tstF (opF eqD [odK 0 8, odE [] 0 (cF (.int 0))])) (rd 9) (opF min2D [odK 0 9, odE [] 0 (opF ixD [odK 1 7, odE [] 0 (opF subD [odK 0 8, odE [] 0 (cF (.int 1))])])])) (by decide) (by decide) nd rfl (by first | exact Or.inl rfl | exact Or.inr rfl) (ve_if (k := 0) (vt_cmp (op_eqA hu) (O_eq ) (xo 8) (vo_e (T := []) (k := 0) (f := cF (.int 0)) (ve_int (k := 0))) (by decide)) (xv 9) (ve_callB (call_min2 rfl) (O_min2 (k := 0)) (by rfl) (by exact bn "min" (by decide)) vb_min (va_cons (xo 9) (va_cons (vo_e (T := []) (k := 0) (f := opF ixD [odK 1 7, odE [] 0 (opF subD [odK 0 8, odE [] 0 (cF (.int 1))])]) (ve_ix ix_seq (O_ix (by decide)) (xo 7) (vo_e (T := []) (k := 0) (f := opF subD [odK 0 8, odE [] 0 (cF (.int 1))]) (ve_bin op_sub (O_sub (k := 0)) (xo 8) (vo_e (T := []) (k := 0) (f := cF (.int 1)) (ve_int (k := 0))) (by decide))) (by decide))) (va_nil) (by decide)) (by decide)))))   (vss_kill 8 0 (by decide) (vss_cons (κ1 := [1, 0, 0, 0, 0, 1, 0, 1, 0, 0]) (s := dropS (appF 7 (opF subD [odK 0 9, odE [0, 0] 0 (opF min2D [odK 0 9, odE [0, 0] 0 (opF mulD [odE [0] 0 (callF [odK 1 0, odE [] 0 (rd 1), odE [] 0 (opF addD [odK 0 9, odE [] 0 (cF (.int 1))])] F_ulaw_draw), odE [0] 0 (callF [odK 1 0, odE [] 0 (rd 1), odE [] 0 (cF (.int 2))] F_ulaw_draw)])])])))   (vs_expr (T := [7, 0, 0]) (j := 0) (f := appF 7 (opF subD [odK 0 9, odE [0, 0] 0 (opF min2D [odK 0 9, odE [0, 0] 0 (opF mulD [odE [0] 0 (callF [odK 1 0, odE [] 0 (rd 1), odE [] 0 (opF addD [odK 0 9, odE [] 0 (cF (.int 1))])] F_ulaw_draw), odE [0] 0 (callF [odK 1 0, odE [] 0 (rd 1), odE [] 0 (cF (.int 2))] F_ulaw_draw)])])])) (ve_append (i := 7) (k := 0) (by decide) (by decide) rfl (by first | exact Or.inl rfl | exact Or.inr (Or.inl rfl) | exact Or.inr (Or.inr rfl)) (ve_bin op_sub (O_sub (k := 0)) (xo 9) (vo_e (T := [0, 0]) (k := 0) (f := opF min2D [odK 0 9, odE [0, 0] 0 (opF mulD [odE [0] 0 (callF [odK 1 0, odE [] 0 (rd 1), odE [] 0 (opF addD [odK 0 9, odE [] 0 (cF (.int 1))])] F_ulaw_draw), odE [0] 0 (callF [odK 1 0, odE [] 0 (rd 1), odE [] 0 (cF (.int 2))] F_ulaw_draw)])]) (ve_callB (call_min2 rfl) (O_min2 (k := 0)) (by rfl) (by exact bn "min" (by decide)) vb_min (va_cons (xo 9) (va_cons (vo_e (T := [0, 0]) (k := 0) (f := opF mulD [odE [0] 0 (callF [odK 1 0, odE [] 0 (rd 1), odE [] 0 (opF addD [odK 0 9, odE [] 0 (cF (.int 1))])] F_ulaw_draw), odE [0] 0 (callF [odK 1 0, odE [] 0 (rd 1), odE [] 0 (cF (.int 2))] F_ulaw_draw)]) (ve_bin op_mulA (O_mul (k := 0)) (vo_e (T := [0]) (k := 0) (f := callF [odK 1 0, odE [] 0 (rd 1), odE [] 0 (opF addD [odK 0 9, odE [] 0 (cF (.int 1))])] F_ulaw_draw) (ve_fn (k := 0) (fn := F_ulaw_draw) (C_ulaw_draw.mono (by decide)) hr (va_cons (xo 0) (va_cons (vo_e (T := []) (k := 0) (f := rd 1) (xv 1)) (va_cons (vo_e (T := []) (k := 0) (f := opF addD [odK 0 9, odE [] 0 (cF (.int 1))]) (ve_share (k := 1) (ve_bin op_addA (O_add (by decide) (by decide)) (xo 9) (vo_e (T := []) (k := 0) (f := cF (.int 1)) (ve_int (k := 0))) (by decide)))) (va_nil) (by decide)) (by decide)) (by decide)))) (vo_e (T := [0]) (k := 0) (f := callF [odK 1 0, odE [] 0 (rd 1), odE [] 0 (cF (.int 2))] F_ulaw_draw) (ve_fn (k := 0) (fn := F_ulaw_draw) (C_ulaw_draw.mono (by decide)) hr (va_cons (xo 0) (va_cons (vo_e (T := []) (k := 0) (f := rd 1) (xv 1)) (va_cons (vo_e (T := []) (k := 0) (f := cF (.int 2)) (ve_int (k := 0))) (va_nil) (by decide)) (by decide)) (by decide)))) (by decide))) (va_nil) (by decide)) (by decide)))) (by decide))))   (vss_kill 9 0 (by decide) (vss_nil)))))))   (vss_kill 6 0 (by decide) (vss_cons (κ1 := [1, 0, 0, 0, 0, 1, 0, 1, 0, 0]) (s := dropS (appF 5 (opF tupleD [odK 1 7])))   (vs_expr (T := [5]) (j := 0) (f := appF 5 (opF tupleD [odK 1 7])) (ve_append (i := 5) (k := 0) (by decide) (by decide) rfl (by first | exact Or.inl rfl | exact Or.inr (Or.inl rfl) | exact Or.inr (Or.inr rfl)) (ve_callTy call_tuple_of (O_tuple (k := 0) (by decide)) (by rfl) (by exact bn "tuple" (by decide)) vb_tuple (va_cons (xo 7) (va_nil) (by decide)))))   (vss_kill 7 0 (by decide) (vss_nil)))))))   (vss_cons (κ1 := [1, 0, 0, 0, 0, 1, 0, 0, 0, 0]) (s := retS (opF tupleD [odK 1 5]))   (vs_ret (T := []) (f := opF tupleD [odK 1 5]) (ve_callTy call_tuple_of (O_tuple (k := 0) (by decide)) (by rfl) (by exact bn "tuple" (by decide)) vb_tuple (va_cons (xo 5) (va_nil) (by decide))))   (vss_nil)))
  exact ⟨fa, fd, _, h, hm, F.kp, hb⟩
abbrev s_ulaw_counts : Stmt := topS 20
abbrev N_ulaw_counts : List Str := ["a", "b", "c", "found", "rows", "many", "one"]
theorem sc_ulaw_counts : FnScope N_ulaw_counts ["a", "b", "c"] (defScope s_ulaw_counts) := ⟨rfl, rfl, rfl, by decide +kernel, rfl, by decide +kernel, by decide +kernel⟩
def ulaw_counts_c1 : Sem0 := lcF (clF (seqSrc (callF [odE [] 0 (rd 0), odE [] 0 (rd 1), odE [] 0 (rd 2)] F_ulaw_heaps)) [4] (tgN 4) (yesF) (oneF (opF sumD [odE [] 0 (callF [odE [] 0 (rd 4)] F_ulaw_flat)])))
def ulaw_counts_c2 : Sem0 := lcF (clF (seqSrc (rd 3)) [6] (tgN 6) (tstF (opF eqD [odK 0 6, odK 0 5])) (oneF (rd 6)))
def ulaw_counts_c3 : Sem0 := lcF (clF (rng1 [odE [] 1 (opF addD [odE [] 0 (opF mulD [odE [] 0 (opF mulD [odK 0 0, odK 0 1]), odK 0 2]), odE [] 0 (cF (.int 1))])]) [5] (tgN 5) (yesF) (oneF (opF lenD [odE [] 1 (ulaw_counts_c2)])))
def S_ulaw_counts : SemS := seqS (setS 3 (ulaw_counts_c1)) (seqS (retS (ulaw_counts_c3)) (nilS))
def F_ulaw_counts : Sem0 := fnF [] N_ulaw_counts.length S_ulaw_counts
theorem ok_ulaw_counts {P : Program} {w : World} {K : PySem.W.Frag} {mg : Str → Option Value} {base : Heap} {fa : Addr} {fd : FuncData} (F : Fun K "_law_counts" "_law_counts" s_ulaw_counts fa fd) (hm : mg "_law_counts" = some (.ref fa)) (hb : Binds K fd ["a", "b", "c"] []) (bn : ∀ x, x ∈ bnames → mg x = none) (C_ulaw_heaps : CalD P w K mg base 1 "_law_heaps" (spD ⟨K, P, w⟩ [] [0, 0, 0] 0 F_ulaw_heaps)) (C_ulaw_flat : CalD P w K mg base 1 "_law_flat" (spD ⟨K, P, w⟩ [] [0] 0 F_ulaw_flat)) : CalD P w K mg base 2 "_law_counts" (spD ⟨K, P, w⟩ [] [0, 0, 0] 0 F_ulaw_counts) := by
  have h : FnOk P w K mg base CX0 2 fa fd ["a", "b", "c"] (spD ⟨K, P, w⟩ [] [0, 0, 0] 0 (fnF [] N_ulaw_counts.length S_ulaw_counts)) := by
    refine fn_ok (lv := 1) (N := N_ulaw_counts) (κ' := [0, 0, 0, 0, 0, 0, 0]) (κp := [0, 0, 0]) (κl := [0, 0, 0, 0]) (Φ := []) (s := S_ulaw_counts) F sc_ulaw_counts rfl rfl (zero_out (by decide)) (fun cdv A outer s0 H E hr => ?_)
    have hu := hr.units
    have nd := sc_ulaw_counts.nd
    exact vss_cons (κ1 := [0, 0, 0, 0, 0, 0, 0]) (s := setS 3 (ulaw_counts_c1))   (vs_set (i := 3) (T := []) (j := 0) (f := ulaw_counts_c1) (by decide) (by decide) nd rfl (by first | exact Or.inl rfl | exact Or.inr rfl) (ve_share (k := 1) (ve_lc (κ := [0, 0, 0, 0, 0, 0, 0]) (T0 := []) (T1 := []) (T2 := []) (k := 0) (Φc := [0, 1, 2, 3, 5, 6]) [] [("rows", 4)] (by decide) (by decide) (by decide) (by decide) (by decide) (by decide) rfl nd (vi_seq (ve_fn (k := 0) (fn := F_ulaw_heaps) (C_ulaw_heaps.mono (by decide)) hr (va_cons (vo_e (T := []) (k := 0) (f := rd 0) (xv 0)) (va_cons (vo_e (T := []) (k := 0) (f := rd 1) (xv 1)) (va_cons (vo_e (T := []) (k := 0) (f := rd 2) (xv 2)) (va_nil) (by decide)) (by decide)) (by decide)))) (blkOk_by (by kernel_rfl)) (fun s0 H0 C0 cl0 fp0 => vg_name (i := 4) (κ' := [0, 0, 0, 0, 0, 0, 0]) (by decide) (by decide) rfl nd rfl (by first | exact Or.inl rfl | exact Or.inr rfl)) (fun s0 H0 C0 cl0 fp0 => vts_nil) (fun s0 H0 C0 cl0 fp0 => ve_callB (cr_sumA rfl) (O_sum (k := 0) (by decide)) (by rfl) (by exact bn "sum" (by decide)) vb_sum (va_cons (vo_e (T := []) (k := 0) (f := callF [odE [] 0 (rd 4)] F_ulaw_flat) (ve_fn (k := 0) (fn := F_ulaw_flat) (C_ulaw_flat.mono (by decide)) hr (va_cons (vo_e (T := []) (k := 0) (f := rd 4) (xv 4)) (va_nil) (by decide)))) (va_nil) (by decide))))))   (vss_cons (κ1 := [0, 0, 0, 0, 0, 0, 0]) (s := retS (ulaw_counts_c3))   (vs_ret (T := []) (f := ulaw_counts_c3) (ve_share (k := 1) (ve_lc (κ := [0, 0, 0, 0, 0, 0, 0]) (T0 := []) (T1 := []) (T2 := []) (k := 0) (Φc := [0, 1, 2, 3, 4, 6]) [] [("many", 5)] (by decide) (by decide) (by decide) (by decide) (by decide) (by decide) rfl nd (vi_rng1 (by rfl) (by exact bn "range" (by decide)) (va_cons (vo_e (T := []) (k := 1) (f := opF addD [odE [] 0 (opF mulD [odE [] 0 (opF mulD [odK 0 0, odK 0 1]), odK 0 2]), odE [] 0 (cF (.int 1))]) (ve_bin op_addA (O_add (by decide) (by decide)) (vo_e (T := []) (k := 0) (f := opF mulD [odE [] 0 (opF mulD [odK 0 0, odK 0 1]), odK 0 2]) (ve_bin op_mulA (O_mul (k := 0)) (vo_e (T := []) (k := 0) (f := opF mulD [odK 0 0, odK 0 1]) (ve_bin op_mulA (O_mul (k := 0)) (xo 0) (xo 1) (by decide))) (xo 2) (by decide))) (vo_e (T := []) (k := 0) (f := cF (.int 1)) (ve_int (k := 0))) (by decide))) (va_nil) (by decide))) (blkOk_by (by kernel_rfl)) (fun s0 H0 C0 cl0 fp0 => vg_name (i := 5) (κ' := [0, 0, 0, 0, 0, 0, 0]) (by decide) (by decide) rfl nd rfl (by first | exact Or.inl rfl | exact Or.inr rfl)) (fun s0 H0 C0 cl0 fp0 => vts_nil) (fun s0 H0 C0 cl0 fp0 => ve_callB call_len (O_len (k := 0)) (by rfl) (by exact bn "len" (by decide)) vb_len (va_cons (vo_e (T := []) (k := 1) (f := ulaw_counts_c2) (ve_lc (κ := [0, 0, 0, 0, 0, 0, 0]) (T0 := []) (T1 := []) (T2 := []) (k := 0) (Φc := [0, 1, 2, 3, 4, 5]) [] [("one", 6)] (by decide) (by decide) (by decide) (by decide) (by decide) (by decide) rfl nd (vi_seq (xv 3)) (blkOk_by (by kernel_rfl)) (fun s0 H0 C0 cl0 fp0 => vg_name (i := 6) (κ' := [0, 0, 0, 0, 0, 0, 0]) (by decide) (by decide) rfl nd rfl (by first | exact Or.inl rfl | exact Or.inr rfl)) (fun s0 H0 C0 cl0 fp0 => vts_one (vt_cmp (op_eqA hu) (O_eq ) (xo 6) (xo 5) (by decide))) (fun s0 H0 C0 cl0 fp0 => xv 6))) (va_nil) (by decide))))))   (vss_nil))
  exact ⟨fa, fd, _, h, hm, F.kp, hb⟩
abbrev s_ulaw_any : Stmt := topS 21
abbrev N_ulaw_any : List Str := ["most", "out", "n", "total", "k", "d"]
theorem sc_ulaw_any : FnScope N_ulaw_any ["most"] (defScope s_ulaw_any) := ⟨rfl, rfl, rfl, by decide +kernel, rfl, by decide +kernel, by decide +kernel⟩
def ulaw_any_c1 : Sem0 := lcF (clF (rng2 [odE [] 0 (cF (.int 1)), odE [] 1 (opF addD [odK 0 4, odE [] 0 (cF (.int 1))])]) [5] (tgN 5) (tstF (opF eqD [odE [] 0 (opF mulD [odE [] 0 (opF fdivD [odK 0 4, odK 0 5]), odK 0 5]), odK 0 4])) (oneF (opF mulD [odK 0 5, odK 0 5])))
def ulaw_any_b1 : SemS := seqS (setS 3 (opF addD [odK 0 3, odE [] 0 (opF mulD [odE [] 0 (opF sumD [odE [] 1 (ulaw_any_c1)]), odE [] 0 (opF ixD [odK 1 1, odE [] 0 (opF subD [odK 0 2, odK 0 4])])])])) (killS 4 (nilS))
def ulaw_any_b2 : SemS := seqS (setS 3 (cF (.int 0))) (seqS (forS (rng2 [odE [] 0 (cF (.int 1)), odE [] 1 (opF addD [odK 0 2, odE [] 0 (cF (.int 1))])]) (tgN 4) (ulaw_any_b1)) (seqS (dropS (appF 1 (opF fdivD [odK 0 3, odK 0 2]))) (killS 2 (killS 3 (nilS)))))
def S_ulaw_any : SemS := seqS (setS 1 (opF lstD [odE [] 0 (cF (.int 1))])) (seqS (forS (rng2 [odE [] 0 (cF (.int 1)), odE [] 1 (opF addD [odK 0 0, odE [] 0 (cF (.int 1))])]) (tgN 2) (ulaw_any_b2)) (seqS (retS (rd 1)) (nilS)))
def F_ulaw_any : Sem0 := fnF [] N_ulaw_any.length S_ulaw_any
theorem ok_ulaw_any {P : Program} {w : World} {K : PySem.W.Frag} {mg : Str → Option Value} {base : Heap} {fa : Addr} {fd : FuncData} (F : Fun K "_law_any" "_law_any" s_ulaw_any fa fd) (hm : mg "_law_any" = some (.ref fa)) (hb : Binds K fd ["most"] []) (bn : ∀ x, x ∈ bnames → mg x = none)  : CalD P w K mg base 1 "_law_any" (spD ⟨K, P, w⟩ [] [0] 0 F_ulaw_any) := by
  have h : FnOk P w K mg base CX0 1 fa fd ["most"] (spD ⟨K, P, w⟩ [] [0] 0 (fnF [] N_ulaw_any.length S_ulaw_any)) := by
    refine fn_ok (lv := 0) (N := N_ulaw_any) (κ' := [0, 0, 0, 0, 0, 0]) (κp := [0]) (κl := [0, 0, 0, 0, 0]) (Φ := []) (s := S_ulaw_any) F sc_ulaw_any rfl rfl (zero_out (by decide)) (fun cdv A outer s0 H E hr => ?_)
    have hu := hr.units
    have nd := sc_ulaw_any.nd
    exact vss_cons (κ1 := [0, 1, 0, 0, 0, 0]) (s := setS 1 (opF lstD [odE [] 0 (cF (.int 1))]))   (vs_set (i := 1) (T := []) (j := 1) (f := opF lstD [odE [] 0 (cF (.int 1))]) (by decide) (by decide) nd rfl (by first | exact Or.inl rfl | exact Or.inr rfl) (ve_lst (O_lst (by decide)) (va_cons (vo_e (T := []) (k := 0) (f := cF (.int 1)) (ve_int (k := 0))) (va_nil) (by decide))))   (vss_cons (κ1 := [0, 1, 0, 0, 0, 0]) (s := forS (rng2 [odE [] 0 (cF (.int 1)), odE [] 1 (opF addD [odK 0 0, odE [] 0 (cF (.int 1))])]) (tgN 2) (ulaw_any_b2))   (vs_for (T := []) (f := rng2 [odE [] 0 (cF (.int 1)), odE [] 1 (opF addD [odK 0 0, odE [] 0 (cF (.int 1))])]) (m := tgN 2) PassesOwn.never rfl (vi_rng2 (by rfl) (by exact bn "range" (by decide)) (va_cons (vo_e (T := []) (k := 0) (f := cF (.int 1)) (ve_int (k := 0))) (va_cons (vo_e (T := []) (k := 1) (f := opF addD [odK 0 0, odE [] 0 (cF (.int 1))]) (ve_bin op_addA (O_add (by decide) (by decide)) (xo 0) (vo_e (T := []) (k := 0) (f := cF (.int 1)) (ve_int (k := 0))) (by decide))) (va_nil) (by decide)) (by decide))) (vg_name (i := 2) (κ' := [0, 1, 0, 0, 0, 0]) (by decide) (by decide) rfl nd rfl (by first | exact Or.inl rfl | exact Or.inr rfl))  (vss_cons (κ1 := [0, 1, 0, 0, 0, 0]) (s := setS 3 (cF (.int 0)))   (vs_set (i := 3) (T := []) (j := 0) (f := cF (.int 0)) (by decide) (by decide) nd rfl (by first | exact Or.inl rfl | exact Or.inr rfl) (ve_int (k := 0)))   (vss_cons (κ1 := [0, 1, 0, 0, 0, 0]) (s := forS (rng2 [odE [] 0 (cF (.int 1)), odE [] 1 (opF addD [odK 0 2, odE [] 0 (cF (.int 1))])]) (tgN 4) (ulaw_any_b1))   (vs_for (T := []) (f := rng2 [odE [] 0 (cF (.int 1)), odE [] 1 (opF addD [odK 0 2, odE [] 0 (cF (.int 1))])]) (m := tgN 4) PassesOwn.never rfl (vi_rng2 (by rfl) (by exact bn "range" (by decide)) (va_cons (vo_e (T := []) (k := 0) (f := cF (.int 1)) (ve_int (k := 0))) (va_cons (vo_e (T := []) (k := 1) (f := opF addD [odK 0 2, odE [] 0 (cF (.int 1))]) (ve_bin op_addA (O_add (by decide) (by decide)) (xo 2) (vo_e (T := []) (k := 0) (f := cF (.int 1)) (ve_int (k := 0))) (by decide))) (va_nil) (by decide)) (by decide))) (vg_name (i := 4) (κ' := [0, 1, 0, 0, 0, 0]) (by decide) (by decide) rfl nd rfl (by first | exact Or.inl rfl | exact Or.inr rfl))  (vss_cons (κ1 := [0, 1, 0, 0, 0, 0]) (s := setS 3 (opF addD [odK 0 3, odE [] 0 (opF mulD [odE [] 0 (opF sumD [odE [] 1 (ulaw_any_c1)]), odE [] 0 (opF ixD [odK 1 1, odE [] 0 (opF subD [odK 0 2, odK 0 4])])])]))   (vs_set (i := 3) (T := []) (j := 0) (f := opF addD [odK 0 3, odE [] 0 (opF mulD [odE [] 0 (opF sumD [odE [] 1 (ulaw_any_c1)]), odE [] 0 (opF ixD [odK 1 1, odE [] 0 (opF subD [odK 0 2, odK 0 4])])])]) (by decide) (by decide) nd rfl (by first | exact Or.inl rfl | exact Or.inr rfl) (ve_share (k := 1) (ve_bin op_addA (O_add (by decide) (by decide)) (xo 3) (vo_e (T := []) (k := 0) (f := opF mulD [odE [] 0 (opF sumD [odE [] 1 (ulaw_any_c1)]), odE [] 0 (opF ixD [odK 1 1, odE [] 0 (opF subD [odK 0 2, odK 0 4])])]) (ve_bin op_mulA (O_mul (k := 0)) (vo_e (T := []) (k := 0) (f := opF sumD [odE [] 1 (ulaw_any_c1)]) (ve_callB (cr_sumA rfl) (O_sum (k := 0) (by decide)) (by rfl) (by exact bn "sum" (by decide)) vb_sum (va_cons (vo_e (T := []) (k := 1) (f := ulaw_any_c1) (ve_lc (κ := [0, 1, 0, 0, 0, 0]) (T0 := []) (T1 := []) (T2 := []) (k := 0) (Φc := [0, 1, 2, 3, 4]) [] [("d", 5)] (by decide) (by decide) (by decide) (by decide) (by decide) (by decide) rfl nd (vi_rng2 (by rfl) (by exact bn "range" (by decide)) (va_cons (vo_e (T := []) (k := 0) (f := cF (.int 1)) (ve_int (k := 0))) (va_cons (vo_e (T := []) (k := 1) (f := opF addD [odK 0 4, odE [] 0 (cF (.int 1))]) (ve_bin op_addA (O_add (by decide) (by decide)) (xo 4) (vo_e (T := []) (k := 0) (f := cF (.int 1)) (ve_int (k := 0))) (by decide))) (va_nil) (by decide)) (by decide))) (blkOk_by (by kernel_rfl)) (fun s0 H0 C0 cl0 fp0 => vg_name (i := 5) (κ' := [0, 1, 0, 0, 0, 0]) (by decide) (by decide) rfl nd rfl (by first | exact Or.inl rfl | exact Or.inr rfl)) (fun s0 H0 C0 cl0 fp0 => vts_one (vt_cmp (op_eqA hu) (O_eq ) (vo_e (T := []) (k := 0) (f := opF mulD [odE [] 0 (opF fdivD [odK 0 4, odK 0 5]), odK 0 5]) (ve_bin op_mulA (O_mul (k := 0)) (vo_e (T := []) (k := 0) (f := opF fdivD [odK 0 4, odK 0 5]) (ve_bin op_fdivA (O_fdiv (k := 0)) (xo 4) (xo 5) (by decide))) (xo 5) (by decide))) (xo 4) (by decide))) (fun s0 H0 C0 cl0 fp0 => ve_bin op_mulA (O_mul (k := 0)) (xo 5) (xo 5) (by decide)))) (va_nil) (by decide)))) (vo_e (T := []) (k := 0) (f := opF ixD [odK 1 1, odE [] 0 (opF subD [odK 0 2, odK 0 4])]) (ve_ix ix_seq (O_ix (by decide)) (xo 1) (vo_e (T := []) (k := 0) (f := opF subD [odK 0 2, odK 0 4]) (ve_bin op_sub (O_sub (k := 0)) (xo 2) (xo 4) (by decide))) (by decide))) (by decide))) (by decide))))   (vss_kill 4 0 (by decide) (vss_nil))))   (vss_cons (κ1 := [0, 1, 0, 0, 0, 0]) (s := dropS (appF 1 (opF fdivD [odK 0 3, odK 0 2])))   (vs_expr (T := [1]) (j := 0) (f := appF 1 (opF fdivD [odK 0 3, odK 0 2])) (ve_append (i := 1) (k := 0) (by decide) (by decide) rfl (by first | exact Or.inl rfl | exact Or.inr (Or.inl rfl) | exact Or.inr (Or.inr rfl)) (ve_bin op_fdivA (O_fdiv (k := 0)) (xo 3) (xo 2) (by decide))))   (vss_kill 2 0 (by decide) (vss_kill 3 0 (by decide) (vss_nil)))))))   (vss_frz 1 (by decide) (vss_cons (κ1 := [0, 0, 0, 0, 0, 0]) (s := retS (rd 1))   (vs_ret (T := []) (f := rd 1) (xv 1))   (vss_nil))))
  exact ⟨fa, fd, _, h, hm, F.kp, hb⟩
abbrev s_law : Stmt := topS 22
abbrev N_law : List Str := ["script", "state", "k", "a", "b", "c", "told", "most", "due", "rows", "cells", "once", "x", "y", "z", "i", "j"]
theorem sc_law : FnScope N_law ["script"] (defScope s_law) := ⟨rfl, rfl, rfl, by decide +kernel, rfl, by decide +kernel, by decide +kernel⟩
def law_c1 : Sem0 := lcF (clF (seqSrc (rd 10)) [12, 13, 14] (tgT [tgN 12, tgN 13, tgN 14]) (yesF) (oneF (opF tupD [odE [] 0 (rd 13), odE [] 0 (rd 12), odE [] 0 (rd 14)])))
def law_c2 : Sem0 := lcF (clF (seqSrc (rd 10)) [12, 13, 14] (tgT [tgN 12, tgN 13, tgN 14]) (andF (tstF (opF eqD [odK 0 14, odK 0 15])) (tstF (opF eqD [odK 0 12, odK 0 16]))) (oneF (cF (.int 1))))
def law_c3 : Sem0 := lcF (clF (rng1 [odK 0 3]) [16] (tgN 16) (yesF) (oneF (opF lenD [odE [] 1 (law_c2)])))
def law_c4 : Sem0 := lcF (clF (rng1 [odK 0 5]) [15] (tgN 15) (yesF) (oneF (opF tupleD [odE [] 1 (law_c3)])))
def law_c5 : Sem0 := lcF (clF (rng1 [odK 0 4]) [16] (tgN 16) (yesF) (oneF (opF subD [odK 0 5, odE [] 0 (opF ixD [odE [] 0 (opF ixD [odK 0 9, odE [] 0 (opF subD [odE [] 0 (opF subD [odK 0 3, odE [] 0 (cF (.int 1))]), odK 0 15])]), odE [] 0 (opF subD [odE [] 0 (opF subD [odK 0 4, odE [] 0 (cF (.int 1))]), odK 0 16])])])))
def law_c6 : Sem0 := lcF (clF (rng1 [odK 0 3]) [15] (tgN 15) (yesF) (oneF (opF tupleD [odE [] 1 (law_c5)])))
def law_b1 : SemS := seqS (par3 3 4 5 (opF addD [odE [] 0 (cF (.int 1)), odE [1] 0 (callF [odK 1 1, odE [] 0 (rd 0), odE [] 0 (cF (.int 5))] F_ulaw_draw)]) (opF addD [odE [] 0 (cF (.int 1)), odE [1] 0 (callF [odK 1 1, odE [] 0 (rd 0), odE [] 0 (cF (.int 5))] F_ulaw_draw)]) (opF addD [odE [] 0 (cF (.int 1)), odE [1] 0 (callF [odK 1 1, odE [] 0 (rd 0), odE [] 0 (cF (.int 5))] F_ulaw_draw)])) (killS 2 (seqS (setS 9 (callF [odK 1 1, odE [] 0 (rd 0), odE [] 0 (rd 3), odE [] 0 (rd 4), odE [] 0 (rd 5)] F_ulaw_heap)) (seqS (setS 10 (callF [odE [] 0 (rd 9)] F_cubes)) (seqS (setS 8 (law_c1)) (seqS (ifS (orF (notF (truO (odE [] 0 (callF [odE [] 0 (callF [odE [] 0 (rd 8), odE [] 0 (rd 4), odE [] 0 (rd 3)] F_from_cubes), odE [] 0 (callF [odE [] 0 (rd 9)] F_swapped)] (F_ulaw_exact 12))))) (notF (truO (odE [] 0 (callF [odE [] 0 (rd 9), odE [] 0 (callF [odE [] 0 (callF [odE [] 0 (rd 9)] F_swapped)] F_swapped)] (F_ulaw_exact 12)))))) (seqS (retS (cF (.bl false))) (nilS)) (nilS)) (killS 8 (seqS (setS 8 (opF tupleD [odE [] 1 (law_c4)])) (killS 10 (seqS (setS 11 (callF [odE [] 0 (rd 9), odE [] 0 (rd 5)] F_rolled)) (seqS (ifS (orF (notF (truO (odE [] 0 (callF [odE [] 0 (rd 8), odE [] 0 (rd 11)] (F_ulaw_exact 12))))) (notF (truO (odE [] 0 (callF [odE [] 0 (rd 9), odE [] 0 (callF [odE [] 0 (callF [odE [] 0 (rd 11), odE [] 0 (rd 4)] F_rolled), odE [] 0 (rd 3)] F_rolled)] (F_ulaw_exact 12)))))) (seqS (retS (cF (.bl false))) (nilS)) (nilS)) (killS 8 (killS 11 (seqS (setS 8 (opF tupleD [odE [] 1 (law_c6)])) (seqS (ifS (orF (notF (truO (odE [] 0 (callF [odE [] 0 (rd 8), odE [] 0 (callF [odE [] 0 (rd 9), odE [] 0 (rd 5)] F_filled_up)] (F_ulaw_exact 12))))) (tstF (opF neD [odE [] 0 (callF [odE [] 0 (rd 8)] F_volume), odE [] 0 (opF subD [odE [] 0 (opF mulD [odE [] 0 (opF mulD [odK 0 3, odK 0 4]), odK 0 5]), odE [] 0 (callF [odE [] 0 (rd 9)] F_volume)])]))) (seqS (retS (cF (.bl false))) (nilS)) (nilS)) (killS 3 (killS 4 (killS 5 (killS 8 (killS 9 (nilS))))))))))))))))))))
def L0 : SemS := setS 1 (opF lstD [odE [] 0 (cF (.int 0)), odE [] 0 (cF (.int 0))])
def L1 : SemS := forS (rng1 [odE [] 0 (cF (.int 4))]) (tgN 2) (law_b1)
def L2 : SemS := asgS (callF [odK 1 1, odE [] 0 (rd 0)] F_ulaw_box) (tgT [tgN 3, tgN 4, tgN 5])
def L3 : SemS := ifS (notF (truO (odE [] 0 (callF [odE [] 0 (callF [odE [] 0 (rd 3), odE [] 0 (rd 4), odE [] 0 (rd 5)] F_ulaw_counts), odE [] 0 (callF [odE [] 0 (rd 3), odE [] 0 (rd 4), odE [] 0 (rd 5)] F_volume_counts)] (F_ulaw_exact 12))))) (seqS (retS (cF (.bl false))) (nilS)) (nilS)
def L4 : SemS := par3 3 4 5 (opF addD [odE [] 0 (cF (.int 1)), odE [1] 0 (callF [odK 1 1, odE [] 0 (rd 0), odE [] 0 (cF (.int 4))] F_ulaw_draw)]) (opF addD [odE [] 0 (cF (.int 1)), odE [1] 0 (callF [odK 1 1, odE [] 0 (rd 0), odE [] 0 (cF (.int 4))] F_ulaw_draw)]) (opF addD [odE [] 0 (cF (.int 1)), odE [1] 0 (callF [odK 1 1, odE [] 0 (rd 0), odE [] 0 (cF (.int 5))] F_ulaw_draw)])
def L5 : SemS := setS 6 (callF [odE [] 0 (rd 3), odE [] 0 (rd 4), odE [] 0 (rd 5)] F_volume_counts)
def L6 : SemS := ifS (orF (tstF (opF neD [odK 0 6, odE [] 1 (opF slRD [odK 0 6])])) (orF (tstF (opF neD [odE [] 0 (opF lenD [odK 0 6]), odE [] 1 (opF addD [odE [] 0 (opF mulD [odE [] 0 (opF mulD [odK 0 3, odK 0 4]), odK 0 5]), odE [] 0 (cF (.int 1))])])) (tstF (opF neD [odK 0 6, odE [] 0 (callF [odE [] 0 (rd 5), odE [] 0 (rd 3), odE [] 0 (rd 4)] F_volume_counts)])))) (seqS (retS (cF (.bl false))) (nilS)) (nilS)
def L7 : SemS := setS 7 (opF min3D [odK 0 3, odK 0 4, odK 0 5])
def L8 : SemS := setS 8 (callF [odE [] 0 (cF (.int 30))] F_ulaw_any)
def L9 : SemS := retS (andV (callF [odE [] 0 (rd 8), odE [] 0 (callF [odE [] 0 (cF (.int 30))] F_all_counts)] (F_ulaw_exact 12)) (opF eqD [odE [] 1 (opF slHD [odK 0 6, odE [] 1 (opF addD [odK 0 7, odE [] 0 (cF (.int 1))])]), odE [] 1 (opF slHD [odK 0 8, odE [] 1 (opF addD [odK 0 7, odE [] 0 (cF (.int 1))])])]))
def S_law : SemS := seqS (L0) (seqS (L1) (seqS (L2) (seqS (L3) (killS 3 (killS 4 (killS 5 (seqS (L4) (killS 1 (seqS (L5) (seqS (L6) (seqS (L7) (killS 3 (killS 4 (killS 5 (seqS (L8) (seqS (L9) (nilS)))))))))))))))))
def F_law : Sem0 := fnF [] N_law.length S_law
theorem fn_law {P : Program} {w : World} {K : PySem.W.Frag} {mg : Str → Option Value} {base : Heap} {fa : Addr} {fd : FuncData} (F : Fun K "law" "law" s_law fa fd) (hm : mg "law" = some (.ref fa)) (hb : Binds K fd ["script"] []) (bn : ∀ x, x ∈ bnames → mg x = none) (C_ulaw_draw : CalD P w K mg base 2 "_law_draw" (spD ⟨K, P, w⟩ [0] [1, 0, 0] 0 F_ulaw_draw)) (C_ulaw_heap : CalD P w K mg base 3 "_law_heap" (spD ⟨K, P, w⟩ [0] [1, 0, 0, 0, 0] 0 F_ulaw_heap)) (C_cubes : CalD P w K mg base 1 "cubes" (spD ⟨K, P, w⟩ [] [0] 0 F_cubes)) (C_from_cubes : CalD P w K mg base 1 "from_cubes" (spD ⟨K, P, w⟩ [] [0, 0, 0] 0 F_from_cubes)) (C_swapped : CalD P w K mg base 1 "swapped" (spD ⟨K, P, w⟩ [] [0] 0 F_swapped)) (C_ulaw_exact : CalD P w K mg base 12 "_law_exact" (spD ⟨K, P, w⟩ [] [0, 0] 0 (F_ulaw_exact 12))) (C_rolled : CalD P w K mg base 2 "rolled" (spD ⟨K, P, w⟩ [] [0, 0] 0 F_rolled)) (C_filled_up : CalD P w K mg base 1 "filled_up" (spD ⟨K, P, w⟩ [] [0, 0] 0 F_filled_up)) (C_volume : CalD P w K mg base 1 "volume" (spD ⟨K, P, w⟩ [] [0] 0 F_volume)) (C_ulaw_box : CalD P w K mg base 3 "_law_box" (spD ⟨K, P, w⟩ [0] [1, 0] 0 F_ulaw_box)) (C_ulaw_counts : CalD P w K mg base 2 "_law_counts" (spD ⟨K, P, w⟩ [] [0, 0, 0] 0 F_ulaw_counts)) (C_volume_counts : CalD P w K mg base 2 "volume_counts" (spD ⟨K, P, w⟩ [] [0, 0, 0] 0 F_volume_counts)) (C_ulaw_any : CalD P w K mg base 1 "_law_any" (spD ⟨K, P, w⟩ [] [0] 0 F_ulaw_any)) (C_all_counts : CalD P w K mg base 1 "all_counts" (spD ⟨K, P, w⟩ [] [0] 0 F_all_counts)) : FnOk P w K mg base CX0 13 fa fd ["script"] (spD ⟨K, P, w⟩ [] [0] 0 F_law) := by
  have h : FnOk P w K mg base CX0 13 fa fd ["script"] (spD ⟨K, P, w⟩ [] [0] 0 (fnF [] N_law.length S_law)) := by
    refine fn_ok (lv := 12) (N := N_law) (κ' := [0, 0, 0, 0, 0, 0, 0, 0, 0, 0, 0, 0, 0, 0, 0, 0, 0]) (κp := [0]) (κl := [0, 0, 0, 0, 0, 0, 0, 0, 0, 0, 0, 0, 0, 0, 0, 0]) (Φ := []) (s := S_law) F sc_law rfl rfl (zero_out (by decide)) (fun cdv A outer s0 H E hr => ?_)
    have hu := hr.units
    have nd := sc_law.nd
    exact vss_cons (κ1 := [0, 1, 0, 0, 0, 0, 0, 0, 0, 0, 0, 0, 0, 0, 0, 0, 0]) (s := L0)   (vs_set (i := 1) (T := []) (j := 1) (f := opF lstD [odE [] 0 (cF (.int 0)), odE [] 0 (cF (.int 0))]) (by decide) (by decide) nd rfl (by first | exact Or.inl rfl | exact Or.inr rfl) (ve_lst (O_lst (by decide)) (va_cons (vo_e (T := []) (k := 0) (f := cF (.int 0)) (ve_int (k := 0))) (va_cons (vo_e (T := []) (k := 0) (f := cF (.int 0)) (ve_int (k := 0))) (va_nil) (by decide)) (by decide))))   (vss_cons (κ1 := [0, 1, 0, 0, 0, 0, 0, 0, 0, 0, 0, 0, 0, 0, 0, 0, 0]) (s := L1)   (vs_for (T := []) (f := rng1 [odE [] 0 (cF (.int 4))]) (m := tgN 2) PassesOwn.never rfl (vi_rng1 (by rfl) (by exact bn "range" (by decide)) (va_cons (vo_e (T := []) (k := 0) (f := cF (.int 4)) (ve_int (k := 0))) (va_nil) (by decide))) (vg_name (i := 2) (κ' := [0, 1, 0, 0, 0, 0, 0, 0, 0, 0, 0, 0, 0, 0, 0, 0, 0]) (by decide) (by decide) rfl nd rfl (by first | exact Or.inl rfl | exact Or.inr rfl))  (vss_cons (κ1 := [0, 1, 0, 0, 0, 0, 0, 0, 0, 0, 0, 0, 0, 0, 0, 0, 0]) (s := par3 3 4 5 (opF addD [odE [] 0 (cF (.int 1)), odE [1] 0 (callF [odK 1 1, odE [] 0 (rd 0), odE [] 0 (cF (.int 5))] F_ulaw_draw)]) (opF addD [odE [] 0 (cF (.int 1)), odE [1] 0 (callF [odK 1 1, odE [] 0 (rd 0), odE [] 0 (cF (.int 5))] F_ulaw_draw)]) (opF addD [odE [] 0 (cF (.int 1)), odE [1] 0 (callF [odK 1 1, odE [] 0 (rd 0), odE [] 0 (cF (.int 5))] F_ulaw_draw)]))   (vs_tup3 (i := 3) (j := 4) (l := 5) (k1 := 0) (f := opF addD [odE [] 0 (cF (.int 1)), odE [1] 0 (callF [odK 1 1, odE [] 0 (rd 0), odE [] 0 (cF (.int 5))] F_ulaw_draw)]) (k2 := 0) (g := opF addD [odE [] 0 (cF (.int 1)), odE [1] 0 (callF [odK 1 1, odE [] 0 (rd 0), odE [] 0 (cF (.int 5))] F_ulaw_draw)]) (k3 := 0) (h := opF addD [odE [] 0 (cF (.int 1)), odE [1] 0 (callF [odK 1 1, odE [] 0 (rd 0), odE [] 0 (cF (.int 5))] F_ulaw_draw)]) (T := [1]) (U := [1]) (W := [1]) (by decide) (by decide) (by decide) (by decide) (by decide) (by decide) rfl nd rfl rfl rfl (by first | exact Or.inl rfl | exact Or.inr rfl) (by first | exact Or.inl rfl | exact Or.inr rfl) (by first | exact Or.inl rfl | exact Or.inr rfl) (ve_share (k := 1) (ve_bin op_addA (O_add (by decide) (by decide)) (vo_e (T := []) (k := 0) (f := cF (.int 1)) (ve_int (k := 0))) (vo_e (T := [1]) (k := 0) (f := callF [odK 1 1, odE [] 0 (rd 0), odE [] 0 (cF (.int 5))] F_ulaw_draw) (ve_fn (k := 0) (fn := F_ulaw_draw) (C_ulaw_draw.mono (by decide)) hr (va_cons (xo 1) (va_cons (vo_e (T := []) (k := 0) (f := rd 0) (xv 0)) (va_cons (vo_e (T := []) (k := 0) (f := cF (.int 5)) (ve_int (k := 0))) (va_nil) (by decide)) (by decide)) (by decide)))) (by decide))) (ve_share (k := 1) (ve_bin op_addA (O_add (by decide) (by decide)) (vo_e (T := []) (k := 0) (f := cF (.int 1)) (ve_int (k := 0))) (vo_e (T := [1]) (k := 0) (f := callF [odK 1 1, odE [] 0 (rd 0), odE [] 0 (cF (.int 5))] F_ulaw_draw) (ve_fn (k := 0) (fn := F_ulaw_draw) (C_ulaw_draw.mono (by decide)) hr (va_cons (xo 1) (va_cons (vo_e (T := []) (k := 0) (f := rd 0) (xv 0)) (va_cons (vo_e (T := []) (k := 0) (f := cF (.int 5)) (ve_int (k := 0))) (va_nil) (by decide)) (by decide)) (by decide)))) (by decide))) (ve_share (k := 1) (ve_bin op_addA (O_add (by decide) (by decide)) (vo_e (T := []) (k := 0) (f := cF (.int 1)) (ve_int (k := 0))) (vo_e (T := [1]) (k := 0) (f := callF [odK 1 1, odE [] 0 (rd 0), odE [] 0 (cF (.int 5))] F_ulaw_draw) (ve_fn (k := 0) (fn := F_ulaw_draw) (C_ulaw_draw.mono (by decide)) hr (va_cons (xo 1) (va_cons (vo_e (T := []) (k := 0) (f := rd 0) (xv 0)) (va_cons (vo_e (T := []) (k := 0) (f := cF (.int 5)) (ve_int (k := 0))) (va_nil) (by decide)) (by decide)) (by decide)))) (by decide))))   (vss_kill 2 0 (by decide) (vss_cons (κ1 := [0, 1, 0, 0, 0, 0, 0, 0, 0, 0, 0, 0, 0, 0, 0, 0, 0]) (s := setS 9 (callF [odK 1 1, odE [] 0 (rd 0), odE [] 0 (rd 3), odE [] 0 (rd 4), odE [] 0 (rd 5)] F_ulaw_heap))   (vs_set (i := 9) (T := [1]) (j := 0) (f := callF [odK 1 1, odE [] 0 (rd 0), odE [] 0 (rd 3), odE [] 0 (rd 4), odE [] 0 (rd 5)] F_ulaw_heap) (by decide) (by decide) nd rfl (by first | exact Or.inl rfl | exact Or.inr rfl) (ve_fn (k := 0) (fn := F_ulaw_heap) (C_ulaw_heap.mono (by decide)) hr (va_cons (xo 1) (va_cons (vo_e (T := []) (k := 0) (f := rd 0) (xv 0)) (va_cons (vo_e (T := []) (k := 0) (f := rd 3) (xv 3)) (va_cons (vo_e (T := []) (k := 0) (f := rd 4) (xv 4)) (va_cons (vo_e (T := []) (k := 0) (f := rd 5) (xv 5)) (va_nil) (by decide)) (by decide)) (by decide)) (by decide)) (by decide))))   (vss_cons (κ1 := [0, 1, 0, 0, 0, 0, 0, 0, 0, 0, 0, 0, 0, 0, 0, 0, 0]) (s := setS 10 (callF [odE [] 0 (rd 9)] F_cubes))   (vs_set (i := 10) (T := []) (j := 0) (f := callF [odE [] 0 (rd 9)] F_cubes) (by decide) (by decide) nd rfl (by first | exact Or.inl rfl | exact Or.inr rfl) (ve_fn (k := 0) (fn := F_cubes) (C_cubes.mono (by decide)) hr (va_cons (vo_e (T := []) (k := 0) (f := rd 9) (xv 9)) (va_nil) (by decide))))   (vss_cons (κ1 := [0, 1, 0, 0, 0, 0, 0, 0, 1, 0, 0, 0, 0, 0, 0, 0, 0]) (s := setS 8 (law_c1))   (vs_setLc (i := 8) (κ := [0, 1, 0, 0, 0, 0, 0, 0, 0, 0, 0, 0, 0, 0, 0, 0, 0]) (T0 := []) (T1 := []) (T2 := []) (k := 0) (Φc := [0, 1, 2, 3, 4, 5, 6, 7, 8, 9, 10, 11, 15, 16]) [] [("x", 12), ("y", 13), ("z", 14)] (by decide) (by decide) (by decide) (by decide) (by decide) (by decide) (by decide) (by decide) rfl nd rfl rfl (sw_true rfl rfl rfl (by decide +kernel)) (vi_seq (xv 10)) (blkOk_by (by kernel_rfl)) (fun s0 H0 C0 cl0 fp0 => vg_tup rfl (vgs_cons (κ1 := [0, 1, 0, 0, 0, 0, 0, 0, 0, 0, 0, 0, 0, 0, 0, 0, 0]) (vg_name (i := 12) (κ' := [0, 1, 0, 0, 0, 0, 0, 0, 0, 0, 0, 0, 0, 0, 0, 0, 0]) (by decide) (by decide) rfl nd rfl (by first | exact Or.inl rfl | exact Or.inr rfl)) (vgs_cons (κ1 := [0, 1, 0, 0, 0, 0, 0, 0, 0, 0, 0, 0, 0, 0, 0, 0, 0]) (vg_name (i := 13) (κ' := [0, 1, 0, 0, 0, 0, 0, 0, 0, 0, 0, 0, 0, 0, 0, 0, 0]) (by decide) (by decide) rfl nd rfl (by first | exact Or.inl rfl | exact Or.inr rfl)) (vgs_cons (κ1 := [0, 1, 0, 0, 0, 0, 0, 0, 0, 0, 0, 0, 0, 0, 0, 0, 0]) (vg_name (i := 14) (κ' := [0, 1, 0, 0, 0, 0, 0, 0, 0, 0, 0, 0, 0, 0, 0, 0, 0]) (by decide) (by decide) rfl nd rfl (by first | exact Or.inl rfl | exact Or.inr rfl)) (vgs_nil))))) (fun s0 H0 C0 cl0 fp0 => vts_nil) (fun s0 H0 C0 cl0 fp0 => ve_tup (O_tup (k := 0) (by decide)) (va_cons (vo_e (T := []) (k := 0) (f := rd 13) (xv 13)) (va_cons (vo_e (T := []) (k := 0) (f := rd 12) (xv 12)) (va_cons (vo_e (T := []) (k := 0) (f := rd 14) (xv 14)) (va_nil) (by decide)) (by decide)) (by decide))))   (vss_frz 8 (by decide) (vss_cons (κ1 := [0, 1, 0, 0, 0, 0, 0, 0, 0, 0, 0, 0, 0, 0, 0, 0, 0]) (s := ifS (orF (notF (truO (odE [] 0 (callF [odE [] 0 (callF [odE [] 0 (rd 8), odE [] 0 (rd 4), odE [] 0 (rd 3)] F_from_cubes), odE [] 0 (callF [odE [] 0 (rd 9)] F_swapped)] (F_ulaw_exact 12))))) (notF (truO (odE [] 0 (callF [odE [] 0 (rd 9), odE [] 0 (callF [odE [] 0 (callF [odE [] 0 (rd 9)] F_swapped)] F_swapped)] (F_ulaw_exact 12)))))) (seqS (retS (cF (.bl false))) (nilS)) (nilS))   (vs_if (T := []) (t := orF (notF (truO (odE [] 0 (callF [odE [] 0 (callF [odE [] 0 (rd 8), odE [] 0 (rd 4), odE [] 0 (rd 3)] F_from_cubes), odE [] 0 (callF [odE [] 0 (rd 9)] F_swapped)] (F_ulaw_exact 12))))) (notF (truO (odE [] 0 (callF [odE [] 0 (rd 9), odE [] 0 (callF [odE [] 0 (callF [odE [] 0 (rd 9)] F_swapped)] F_swapped)] (F_ulaw_exact 12)))))) ((vw_or (vt_not (vt_tru (vo_e (T := []) (k := 0) (f := callF [odE [] 0 (callF [odE [] 0 (rd 8), odE [] 0 (rd 4), odE [] 0 (rd 3)] F_from_cubes), odE [] 0 (callF [odE [] 0 (rd 9)] F_swapped)] (F_ulaw_exact 12)) (ve_fn (k := 0) (fn := (F_ulaw_exact 12)) (C_ulaw_exact.mono (by decide)) hr (va_cons (vo_e (T := []) (k := 0) (f := callF [odE [] 0 (rd 8), odE [] 0 (rd 4), odE [] 0 (rd 3)] F_from_cubes) (ve_fn (k := 0) (fn := F_from_cubes) (C_from_cubes.mono (by decide)) hr (va_cons (vo_e (T := []) (k := 0) (f := rd 8) (xv 8)) (va_cons (vo_e (T := []) (k := 0) (f := rd 4) (xv 4)) (va_cons (vo_e (T := []) (k := 0) (f := rd 3) (xv 3)) (va_nil) (by decide)) (by decide)) (by decide)))) (va_cons (vo_e (T := []) (k := 0) (f := callF [odE [] 0 (rd 9)] F_swapped) (ve_fn (k := 0) (fn := F_swapped) (C_swapped.mono (by decide)) hr (va_cons (vo_e (T := []) (k := 0) (f := rd 9) (xv 9)) (va_nil) (by decide)))) (va_nil) (by decide)) (by decide)))))) (vw_or1 (vt_not (vt_tru (vo_e (T := []) (k := 0) (f := callF [odE [] 0 (rd 9), odE [] 0 (callF [odE [] 0 (callF [odE [] 0 (rd 9)] F_swapped)] F_swapped)] (F_ulaw_exact 12)) (ve_fn (k := 0) (fn := (F_ulaw_exact 12)) (C_ulaw_exact.mono (by decide)) hr (va_cons (vo_e (T := []) (k := 0) (f := rd 9) (xv 9)) (va_cons (vo_e (T := []) (k := 0) (f := callF [odE [] 0 (callF [odE [] 0 (rd 9)] F_swapped)] F_swapped) (ve_fn (k := 0) (fn := F_swapped) (C_swapped.mono (by decide)) hr (va_cons (vo_e (T := []) (k := 0) (f := callF [odE [] 0 (rd 9)] F_swapped) (ve_fn (k := 0) (fn := F_swapped) (C_swapped.mono (by decide)) hr (va_cons (vo_e (T := []) (k := 0) (f := rd 9) (xv 9)) (va_nil) (by decide)))) (va_nil) (by decide)))) (va_nil) (by decide)) (by decide)))))))).pt)  (vss_cons (κ1 := [0, 1, 0, 0, 0, 0, 0, 0, 0, 0, 0, 0, 0, 0, 0, 0, 0]) (s := retS (cF (.bl false)))   (vs_ret (T := []) (f := cF (.bl false)) (ve_bl (k := 0)))   (vss_nil))  (vss_nil))   (vss_kill 8 0 (by decide) (vss_cons (κ1 := [0, 1, 0, 0, 0, 0, 0, 0, 0, 0, 0, 0, 0, 0, 0, 0, 0]) (s := setS 8 (opF tupleD [odE [] 1 (law_c4)]))   (vs_set (i := 8) (T := []) (j := 0) (f := opF tupleD [odE [] 1 (law_c4)]) (by decide) (by decide) nd rfl (by first | exact Or.inl rfl | exact Or.inr rfl) (ve_callTy call_tuple_of (O_tuple (k := 0) (by decide)) (by rfl) (by exact bn "tuple" (by decide)) vb_tuple (va_cons (vo_e (T := []) (k := 1) (f := law_c4) (ve_lc (κ := [0, 1, 0, 0, 0, 0, 0, 0, 0, 0, 0, 0, 0, 0, 0, 0, 0]) (T0 := []) (T1 := []) (T2 := []) (k := 0) (Φc := [0, 1, 2, 3, 4, 5, 6, 7, 8, 9, 10, 11, 12, 13, 14, 16]) [] [("i", 15)] (by decide) (by decide) (by decide) (by decide) (by decide) (by decide) rfl nd (vi_rng1 (by rfl) (by exact bn "range" (by decide)) (va_cons (xo 5) (va_nil) (by decide))) (blkOk_by (by kernel_rfl)) (fun s0 H0 C0 cl0 fp0 => vg_name (i := 15) (κ' := [0, 1, 0, 0, 0, 0, 0, 0, 0, 0, 0, 0, 0, 0, 0, 0, 0]) (by decide) (by decide) rfl nd rfl (by first | exact Or.inl rfl | exact Or.inr rfl)) (fun s0 H0 C0 cl0 fp0 => vts_nil) (fun s0 H0 C0 cl0 fp0 => ve_callTy call_tuple_of (O_tuple (k := 0) (by decide)) (by rfl) (by exact bn "tuple" (by decide)) vb_tuple (va_cons (vo_e (T := []) (k := 1) (f := law_c3) (ve_lc (κ := [0, 1, 0, 0, 0, 0, 0, 0, 0, 0, 0, 0, 0, 0, 0, 0, 0]) (T0 := []) (T1 := []) (T2 := []) (k := 0) (Φc := [0, 1, 2, 3, 4, 5, 6, 7, 8, 9, 10, 11, 12, 13, 14, 15]) [] [("j", 16)] (by decide) (by decide) (by decide) (by decide) (by decide) (by decide) rfl nd (vi_rng1 (by rfl) (by exact bn "range" (by decide)) (va_cons (xo 3) (va_nil) (by decide))) (blkOk_by (by kernel_rfl)) (fun s0 H0 C0 cl0 fp0 => vg_name (i := 16) (κ' := [0, 1, 0, 0, 0, 0, 0, 0, 0, 0, 0, 0, 0, 0, 0, 0, 0]) (by decide) (by decide) rfl nd rfl (by first | exact Or.inl rfl | exact Or.inr rfl)) (fun s0 H0 C0 cl0 fp0 => vts_nil) (fun s0 H0 C0 cl0 fp0 => ve_callB call_len (O_len (k := 0)) (by rfl) (by exact bn "len" (by decide)) vb_len (va_cons (vo_e (T := []) (k := 1) (f := law_c2) (ve_lc (κ := [0, 1, 0, 0, 0, 0, 0, 0, 0, 0, 0, 0, 0, 0, 0, 0, 0]) (T0 := []) (T1 := []) (T2 := []) (k := 0) (Φc := [0, 1, 2, 3, 4, 5, 6, 7, 8, 9, 10, 11, 15, 16]) [] [("x", 12), ("y", 13), ("z", 14)] (by decide) (by decide) (by decide) (by decide) (by decide) (by decide) rfl nd (vi_seq (xv 10)) (blkOk_by (by kernel_rfl)) (fun s0 H0 C0 cl0 fp0 => vg_tup rfl (vgs_cons (κ1 := [0, 1, 0, 0, 0, 0, 0, 0, 0, 0, 0, 0, 0, 0, 0, 0, 0]) (vg_name (i := 12) (κ' := [0, 1, 0, 0, 0, 0, 0, 0, 0, 0, 0, 0, 0, 0, 0, 0, 0]) (by decide) (by decide) rfl nd rfl (by first | exact Or.inl rfl | exact Or.inr rfl)) (vgs_cons (κ1 := [0, 1, 0, 0, 0, 0, 0, 0, 0, 0, 0, 0, 0, 0, 0, 0, 0]) (vg_name (i := 13) (κ' := [0, 1, 0, 0, 0, 0, 0, 0, 0, 0, 0, 0, 0, 0, 0, 0, 0]) (by decide) (by decide) rfl nd rfl (by first | exact Or.inl rfl | exact Or.inr rfl)) (vgs_cons (κ1 := [0, 1, 0, 0, 0, 0, 0, 0, 0, 0, 0, 0, 0, 0, 0, 0, 0]) (vg_name (i := 14) (κ' := [0, 1, 0, 0, 0, 0, 0, 0, 0, 0, 0, 0, 0, 0, 0, 0, 0]) (by decide) (by decide) rfl nd rfl (by first | exact Or.inl rfl | exact Or.inr rfl)) (vgs_nil))))) (fun s0 H0 C0 cl0 fp0 => vts_one ((vw_and (vt_cmp (op_eqA hu) (O_eq ) (xo 14) (xo 15) (by decide)) (vw_and1 (vt_cmp (op_eqA hu) (O_eq ) (xo 12) (xo 16) (by decide)))).pt)) (fun s0 H0 C0 cl0 fp0 => ve_int (k := 0)))) (va_nil) (by decide))))) (va_nil) (by decide))))) (va_nil) (by decide))))   (vss_kill 10 0 (by decide) (vss_cons (κ1 := [0, 1, 0, 0, 0, 0, 0, 0, 0, 0, 0, 0, 0, 0, 0, 0, 0]) (s := setS 11 (callF [odE [] 0 (rd 9), odE [] 0 (rd 5)] F_rolled))   (vs_set (i := 11) (T := []) (j := 0) (f := callF [odE [] 0 (rd 9), odE [] 0 (rd 5)] F_rolled) (by decide) (by decide) nd rfl (by first | exact Or.inl rfl | exact Or.inr rfl) (ve_fn (k := 0) (fn := F_rolled) (C_rolled.mono (by decide)) hr (va_cons (vo_e (T := []) (k := 0) (f := rd 9) (xv 9)) (va_cons (vo_e (T := []) (k := 0) (f := rd 5) (xv 5)) (va_nil) (by decide)) (by decide))))   (vss_cons (κ1 := [0, 1, 0, 0, 0, 0, 0, 0, 0, 0, 0, 0, 0, 0, 0, 0, 0]) (s := ifS (orF (notF (truO (odE [] 0 (callF [odE [] 0 (rd 8), odE [] 0 (rd 11)] (F_ulaw_exact 12))))) (notF (truO (odE [] 0 (callF [odE [] 0 (rd 9), odE [] 0 (callF [odE [] 0 (callF [odE [] 0 (rd 11), odE [] 0 (rd 4)] F_rolled), odE [] 0 (rd 3)] F_rolled)] (F_ulaw_exact 12)))))) (seqS (retS (cF (.bl false))) (nilS)) (nilS))   (vs_if (T := []) (t := orF (notF (truO (odE [] 0 (callF [odE [] 0 (rd 8), odE [] 0 (rd 11)] (F_ulaw_exact 12))))) (notF (truO (odE [] 0 (callF [odE [] 0 (rd 9), odE [] 0 (callF [odE [] 0 (callF [odE [] 0 (rd 11), odE [] 0 (rd 4)] F_rolled), odE [] 0 (rd 3)] F_rolled)] (F_ulaw_exact 12)))))) ((vw_or (vt_not (vt_tru (vo_e (T := []) (k := 0) (f := callF [odE [] 0 (rd 8), odE [] 0 (rd 11)] (F_ulaw_exact 12)) (ve_fn (k := 0) (fn := (F_ulaw_exact 12)) (C_ulaw_exact.mono (by decide)) hr (va_cons (vo_e (T := []) (k := 0) (f := rd 8) (xv 8)) (va_cons (vo_e (T := []) (k := 0) (f := rd 11) (xv 11)) (va_nil) (by decide)) (by decide)))))) (vw_or1 (vt_not (vt_tru (vo_e (T := []) (k := 0) (f := callF [odE [] 0 (rd 9), odE [] 0 (callF [odE [] 0 (callF [odE [] 0 (rd 11), odE [] 0 (rd 4)] F_rolled), odE [] 0 (rd 3)] F_rolled)] (F_ulaw_exact 12)) (ve_fn (k := 0) (fn := (F_ulaw_exact 12)) (C_ulaw_exact.mono (by decide)) hr (va_cons (vo_e (T := []) (k := 0) (f := rd 9) (xv 9)) (va_cons (vo_e (T := []) (k := 0) (f := callF [odE [] 0 (callF [odE [] 0 (rd 11), odE [] 0 (rd 4)] F_rolled), odE [] 0 (rd 3)] F_rolled) (ve_fn (k := 0) (fn := F_rolled) (C_rolled.mono (by decide)) hr (va_cons (vo_e (T := []) (k := 0) (f := callF [odE [] 0 (rd 11), odE [] 0 (rd 4)] F_rolled) (ve_fn (k := 0) (fn := F_rolled) (C_rolled.mono (by decide)) hr (va_cons (vo_e (T := []) (k := 0) (f := rd 11) (xv 11)) (va_cons (vo_e (T := []) (k := 0) (f := rd 4) (xv 4)) (va_nil) (by decide)) (by decide)))) (va_cons (vo_e (T := []) (k := 0) (f := rd 3) (xv 3)) (va_nil) (by decide)) (by decide)))) (va_nil) (by decide)) (by decide)))))))).pt)  (vss_cons (κ1 := [0, 1, 0, 0, 0, 0, 0, 0, 0, 0, 0, 0, 0, 0, 0, 0, 0]) (s := retS (cF (.bl false)))   (vs_ret (T := []) (f := cF (.bl false)) (ve_bl (k := 0)))   (vss_nil))  (vss_nil))   (vss_kill 8 0 (by decide) (vss_kill 11 0 (by decide) (vss_cons (κ1 := [0, 1, 0, 0, 0, 0, 0, 0, 0, 0, 0, 0, 0, 0, 0, 0, 0]) (s := setS 8 (opF tupleD [odE [] 1 (law_c6)]))   (vs_set (i := 8) (T := []) (j := 0) (f := opF tupleD [odE [] 1 (law_c6)]) (by decide) (by decide) nd rfl (by first | exact Or.inl rfl | exact Or.inr rfl) (ve_callTy call_tuple_of (O_tuple (k := 0) (by decide)) (by rfl) (by exact bn "tuple" (by decide)) vb_tuple (va_cons (vo_e (T := []) (k := 1) (f := law_c6) (ve_lc (κ := [0, 1, 0, 0, 0, 0, 0, 0, 0, 0, 0, 0, 0, 0, 0, 0, 0]) (T0 := []) (T1 := []) (T2 := []) (k := 0) (Φc := [0, 1, 2, 3, 4, 5, 6, 7, 8, 9, 10, 11, 12, 13, 14, 16]) [] [("i", 15)] (by decide) (by decide) (by decide) (by decide) (by decide) (by decide) rfl nd (vi_rng1 (by rfl) (by exact bn "range" (by decide)) (va_cons (xo 3) (va_nil) (by decide))) (blkOk_by (by kernel_rfl)) (fun s0 H0 C0 cl0 fp0 => vg_name (i := 15) (κ' := [0, 1, 0, 0, 0, 0, 0, 0, 0, 0, 0, 0, 0, 0, 0, 0, 0]) (by decide) (by decide) rfl nd rfl (by first | exact Or.inl rfl | exact Or.inr rfl)) (fun s0 H0 C0 cl0 fp0 => vts_nil) (fun s0 H0 C0 cl0 fp0 => ve_callTy call_tuple_of (O_tuple (k := 0) (by decide)) (by rfl) (by exact bn "tuple" (by decide)) vb_tuple (va_cons (vo_e (T := []) (k := 1) (f := law_c5) (ve_lc (κ := [0, 1, 0, 0, 0, 0, 0, 0, 0, 0, 0, 0, 0, 0, 0, 0, 0]) (T0 := []) (T1 := []) (T2 := []) (k := 0) (Φc := [0, 1, 2, 3, 4, 5, 6, 7, 8, 9, 10, 11, 12, 13, 14, 15]) [] [("j", 16)] (by decide) (by decide) (by decide) (by decide) (by decide) (by decide) rfl nd (vi_rng1 (by rfl) (by exact bn "range" (by decide)) (va_cons (xo 4) (va_nil) (by decide))) (blkOk_by (by kernel_rfl)) (fun s0 H0 C0 cl0 fp0 => vg_name (i := 16) (κ' := [0, 1, 0, 0, 0, 0, 0, 0, 0, 0, 0, 0, 0, 0, 0, 0, 0]) (by decide) (by decide) rfl nd rfl (by first | exact Or.inl rfl | exact Or.inr rfl)) (fun s0 H0 C0 cl0 fp0 => vts_nil) (fun s0 H0 C0 cl0 fp0 => ve_bin op_sub (O_sub (k := 0)) (xo 5) (vo_e (T := []) (k := 0) (f := opF ixD [odE [] 0 (opF ixD [odK 0 9, odE [] 0 (opF subD [odE [] 0 (opF subD [odK 0 3, odE [] 0 (cF (.int 1))]), odK 0 15])]), odE [] 0 (opF subD [odE [] 0 (opF subD [odK 0 4, odE [] 0 (cF (.int 1))]), odK 0 16])]) (ve_ix ix_seq (O_ix (by decide)) (vo_e (T := []) (k := 0) (f := opF ixD [odK 0 9, odE [] 0 (opF subD [odE [] 0 (opF subD [odK 0 3, odE [] 0 (cF (.int 1))]), odK 0 15])]) (ve_ix ix_seq (O_ix (by decide)) (xo 9) (vo_e (T := []) (k := 0) (f := opF subD [odE [] 0 (opF subD [odK 0 3, odE [] 0 (cF (.int 1))]), odK 0 15]) (ve_bin op_sub (O_sub (k := 0)) (vo_e (T := []) (k := 0) (f := opF subD [odK 0 3, odE [] 0 (cF (.int 1))]) (ve_bin op_sub (O_sub (k := 0)) (xo 3) (vo_e (T := []) (k := 0) (f := cF (.int 1)) (ve_int (k := 0))) (by decide))) (xo 15) (by decide))) (by decide))) (vo_e (T := []) (k := 0) (f := opF subD [odE [] 0 (opF subD [odK 0 4, odE [] 0 (cF (.int 1))]), odK 0 16]) (ve_bin op_sub (O_sub (k := 0)) (vo_e (T := []) (k := 0) (f := opF subD [odK 0 4, odE [] 0 (cF (.int 1))]) (ve_bin op_sub (O_sub (k := 0)) (xo 4) (vo_e (T := []) (k := 0) (f := cF (.int 1)) (ve_int (k := 0))) (by decide))) (xo 16) (by decide))) (by decide))) (by decide)))) (va_nil) (by decide))))) (va_nil) (by decide))))   (vss_cons (κ1 := [0, 1, 0, 0, 0, 0, 0, 0, 0, 0, 0, 0, 0, 0, 0, 0, 0]) (s := ifS (orF (notF (truO (odE [] 0 (callF [odE [] 0 (rd 8), odE [] 0 (callF [odE [] 0 (rd 9), odE [] 0 (rd 5)] F_filled_up)] (F_ulaw_exact 12))))) (tstF (opF neD [odE [] 0 (callF [odE [] 0 (rd 8)] F_volume), odE [] 0 (opF subD [odE [] 0 (opF mulD [odE [] 0 (opF mulD [odK 0 3, odK 0 4]), odK 0 5]), odE [] 0 (callF [odE [] 0 (rd 9)] F_volume)])]))) (seqS (retS (cF (.bl false))) (nilS)) (nilS))   (vs_if (T := []) (t := orF (notF (truO (odE [] 0 (callF [odE [] 0 (rd 8), odE [] 0 (callF [odE [] 0 (rd 9), odE [] 0 (rd 5)] F_filled_up)] (F_ulaw_exact 12))))) (tstF (opF neD [odE [] 0 (callF [odE [] 0 (rd 8)] F_volume), odE [] 0 (opF subD [odE [] 0 (opF mulD [odE [] 0 (opF mulD [odK 0 3, odK 0 4]), odK 0 5]), odE [] 0 (callF [odE [] 0 (rd 9)] F_volume)])]))) ((vw_or (vt_not (vt_tru (vo_e (T := []) (k := 0) (f := callF [odE [] 0 (rd 8), odE [] 0 (callF [odE [] 0 (rd 9), odE [] 0 (rd 5)] F_filled_up)] (F_ulaw_exact 12)) (ve_fn (k := 0) (fn := (F_ulaw_exact 12)) (C_ulaw_exact.mono (by decide)) hr (va_cons (vo_e (T := []) (k := 0) (f := rd 8) (xv 8)) (va_cons (vo_e (T := []) (k := 0) (f := callF [odE [] 0 (rd 9), odE [] 0 (rd 5)] F_filled_up) (ve_fn (k := 0) (fn := F_filled_up) (C_filled_up.mono (by decide)) hr (va_cons (vo_e (T := []) (k := 0) (f := rd 9) (xv 9)) (va_cons (vo_e (T := []) (k := 0) (f := rd 5) (xv 5)) (va_nil) (by decide)) (by decide)))) (va_nil) (by decide)) (by decide)))))) (vw_or1 (vt_cmp (op_neA hu) (O_ne ) (vo_e (T := []) (k := 0) (f := callF [odE [] 0 (rd 8)] F_volume) (ve_fn (k := 0) (fn := F_volume) (C_volume.mono (by decide)) hr (va_cons (vo_e (T := []) (k := 0) (f := rd 8) (xv 8)) (va_nil) (by decide)))) (vo_e (T := []) (k := 0) (f := opF subD [odE [] 0 (opF mulD [odE [] 0 (opF mulD [odK 0 3, odK 0 4]), odK 0 5]), odE [] 0 (callF [odE [] 0 (rd 9)] F_volume)]) (ve_bin op_sub (O_sub (k := 0)) (vo_e (T := []) (k := 0) (f := opF mulD [odE [] 0 (opF mulD [odK 0 3, odK 0 4]), odK 0 5]) (ve_bin op_mulA (O_mul (k := 0)) (vo_e (T := []) (k := 0) (f := opF mulD [odK 0 3, odK 0 4]) (ve_bin op_mulA (O_mul (k := 0)) (xo 3) (xo 4) (by decide))) (xo 5) (by decide))) (vo_e (T := []) (k := 0) (f := callF [odE [] 0 (rd 9)] F_volume) (ve_fn (k := 0) (fn := F_volume) (C_volume.mono (by decide)) hr (va_cons (vo_e (T := []) (k := 0) (f := rd 9) (xv 9)) (va_nil) (by decide)))) (by decide))) (by decide)))).pt)  (vss_cons (κ1 := [0, 1, 0, 0, 0, 0, 0, 0, 0, 0, 0, 0, 0, 0, 0, 0, 0]) (s := retS (cF (.bl false)))   (vs_ret (T := []) (f := cF (.bl false)) (ve_bl (k := 0)))   (vss_nil))  (vss_nil))   (vss_kill 3 0 (by decide) (vss_kill 4 0 (by decide) (vss_kill 5 0 (by decide) (vss_kill 8 0 (by decide) (vss_kill 9 0 (by decide) (vss_nil)))))))))))))))))))))))   (vss_cons (κ1 := [0, 1, 0, 0, 0, 0, 0, 0, 0, 0, 0, 0, 0, 0, 0, 0, 0]) (s := L2)   (vs_asg (T := [1]) (f := callF [odK 1 1, odE [] 0 (rd 0)] F_ulaw_box) (ve_fn (k := 0) (fn := F_ulaw_box) (C_ulaw_box.mono (by decide)) hr (va_cons (xo 1) (va_cons (vo_e (T := []) (k := 0) (f := rd 0) (xv 0)) (va_nil) (by decide)) (by decide))) (vg_tup rfl (vgs_cons (κ1 := [0, 1, 0, 0, 0, 0, 0, 0, 0, 0, 0, 0, 0, 0, 0, 0, 0]) (vg_name (i := 3) (κ' := [0, 1, 0, 0, 0, 0, 0, 0, 0, 0, 0, 0, 0, 0, 0, 0, 0]) (by decide) (by decide) rfl nd rfl (by first | exact Or.inl rfl | exact Or.inr rfl)) (vgs_cons (κ1 := [0, 1, 0, 0, 0, 0, 0, 0, 0, 0, 0, 0, 0, 0, 0, 0, 0]) (vg_name (i := 4) (κ' := [0, 1, 0, 0, 0, 0, 0, 0, 0, 0, 0, 0, 0, 0, 0, 0, 0]) (by decide) (by decide) rfl nd rfl (by first | exact Or.inl rfl | exact Or.inr rfl)) (vgs_cons (κ1 := [0, 1, 0, 0, 0, 0, 0, 0, 0, 0, 0, 0, 0, 0, 0, 0, 0]) (vg_name (i := 5) (κ' := [0, 1, 0, 0, 0, 0, 0, 0, 0, 0, 0, 0, 0, 0, 0, 0, 0]) (by decide) (by decide) rfl nd rfl (by first | exact Or.inl rfl | exact Or.inr rfl)) (vgs_nil))))))   (vss_cons (κ1 := [0, 1, 0, 0, 0, 0, 0, 0, 0, 0, 0, 0, 0, 0, 0, 0, 0]) (s := L3)   (vs_if (T := []) (t := notF (truO (odE [] 0 (callF [odE [] 0 (callF [odE [] 0 (rd 3), odE [] 0 (rd 4), odE [] 0 (rd 5)] F_ulaw_counts), odE [] 0 (callF [odE [] 0 (rd 3), odE [] 0 (rd 4), odE [] 0 (rd 5)] F_volume_counts)] (F_ulaw_exact 12))))) (vt_not (vt_tru (vo_e (T := []) (k := 0) (f := callF [odE [] 0 (callF [odE [] 0 (rd 3), odE [] 0 (rd 4), odE [] 0 (rd 5)] F_ulaw_counts), odE [] 0 (callF [odE [] 0 (rd 3), odE [] 0 (rd 4), odE [] 0 (rd 5)] F_volume_counts)] (F_ulaw_exact 12)) (ve_fn (k := 0) (fn := (F_ulaw_exact 12)) (C_ulaw_exact.mono (by decide)) hr (va_cons (vo_e (T := []) (k := 0) (f := callF [odE [] 0 (rd 3), odE [] 0 (rd 4), odE [] 0 (rd 5)] F_ulaw_counts) (ve_fn (k := 0) (fn := F_ulaw_counts) (C_ulaw_counts.mono (by decide)) hr (va_cons (vo_e (T := []) (k := 0) (f := rd 3) (xv 3)) (va_cons (vo_e (T := []) (k := 0) (f := rd 4) (xv 4)) (va_cons (vo_e (T := []) (k := 0) (f := rd 5) (xv 5)) (va_nil) (by decide)) (by decide)) (by decide)))) (va_cons (vo_e (T := []) (k := 0) (f := callF [odE [] 0 (rd 3), odE [] 0 (rd 4), odE [] 0 (rd 5)] F_volume_counts) (ve_fn (k := 0) (fn := F_volume_counts) (C_volume_counts.mono (by decide)) hr (va_cons (vo_e (T := []) (k := 0) (f := rd 3) (xv 3)) (va_cons (vo_e (T := []) (k := 0) (f := rd 4) (xv 4)) (va_cons (vo_e (T := []) (k := 0) (f := rd 5) (xv 5)) (va_nil) (by decide)) (by decide)) (by decide)))) (va_nil) (by decide)) (by decide))))))  (vss_cons (κ1 := [0, 1, 0, 0, 0, 0, 0, 0, 0, 0, 0, 0, 0, 0, 0, 0, 0]) (s := retS (cF (.bl false)))   (vs_ret (T := []) (f := cF (.bl false)) (ve_bl (k := 0)))   (vss_nil))  (vss_nil))   (vss_kill 3 0 (by decide) (vss_kill 4 0 (by decide) (vss_kill 5 0 (by decide) (vss_cons (κ1 := [0, 1, 0, 0, 0, 0, 0, 0, 0, 0, 0, 0, 0, 0, 0, 0, 0]) (s := L4)   (vs_tup3 (i := 3) (j := 4) (l := 5) (k1 := 0) (f := opF addD [odE [] 0 (cF (.int 1)), odE [1] 0 (callF [odK 1 1, odE [] 0 (rd 0), odE [] 0 (cF (.int 4))] F_ulaw_draw)]) (k2 := 0) (g := opF addD [odE [] 0 (cF (.int 1)), odE [1] 0 (callF [odK 1 1, odE [] 0 (rd 0), odE [] 0 (cF (.int 4))] F_ulaw_draw)]) (k3 := 0) (h := opF addD [odE [] 0 (cF (.int 1)), odE [1] 0 (callF [odK 1 1, odE [] 0 (rd 0), odE [] 0 (cF (.int 5))] F_ulaw_draw)]) (T := [1]) (U := [1]) (W := [1]) (by decide) (by decide) (by decide) (by decide) (by decide) (by decide) rfl nd rfl rfl rfl (by first | exact Or.inl rfl | exact Or.inr rfl) (by first | exact Or.inl rfl | exact Or.inr rfl) (by first | exact Or.inl rfl | exact Or.inr rfl) (ve_share (k := 1) (ve_bin op_addA (O_add (by decide) (by decide)) (vo_e (T := []) (k := 0) (f := cF (.int 1)) (ve_int (k := 0))) (vo_e (T := [1]) (k := 0) (f := callF [odK 1 1, odE [] 0 (rd 0), odE [] 0 (cF (.int 4))] F_ulaw_draw) (ve_fn (k := 0) (fn := F_ulaw_draw) (C_ulaw_draw.mono (by decide)) hr (va_cons (xo 1) (va_cons (vo_e (T := []) (k := 0) (f := rd 0) (xv 0)) (va_cons (vo_e (T := []) (k := 0) (f := cF (.int 4)) (ve_int (k := 0))) (va_nil) (by decide)) (by decide)) (by decide)))) (by decide))) (ve_share (k := 1) (ve_bin op_addA (O_add (by decide) (by decide)) (vo_e (T := []) (k := 0) (f := cF (.int 1)) (ve_int (k := 0))) (vo_e (T := [1]) (k := 0) (f := callF [odK 1 1, odE [] 0 (rd 0), odE [] 0 (cF (.int 4))] F_ulaw_draw) (ve_fn (k := 0) (fn := F_ulaw_draw) (C_ulaw_draw.mono (by decide)) hr (va_cons (xo 1) (va_cons (vo_e (T := []) (k := 0) (f := rd 0) (xv 0)) (va_cons (vo_e (T := []) (k := 0) (f := cF (.int 4)) (ve_int (k := 0))) (va_nil) (by decide)) (by decide)) (by decide)))) (by decide))) (ve_share (k := 1) (ve_bin op_addA (O_add (by decide) (by decide)) (vo_e (T := []) (k := 0) (f := cF (.int 1)) (ve_int (k := 0))) (vo_e (T := [1]) (k := 0) (f := callF [odK 1 1, odE [] 0 (rd 0), odE [] 0 (cF (.int 5))] F_ulaw_draw) (ve_fn (k := 0) (fn := F_ulaw_draw) (C_ulaw_draw.mono (by decide)) hr (va_cons (xo 1) (va_cons (vo_e (T := []) (k := 0) (f := rd 0) (xv 0)) (va_cons (vo_e (T := []) (k := 0) (f := cF (.int 5)) (ve_int (k := 0))) (va_nil) (by decide)) (by decide)) (by decide)))) (by decide))))   (vss_kill 1 0 (by decide) (vss_cons (κ1 := [0, 0, 0, 0, 0, 0, 0, 0, 0, 0, 0, 0, 0, 0, 0, 0, 0]) (s := L5)   (vs_set (i := 6) (T := []) (j := 0) (f := callF [odE [] 0 (rd 3), odE [] 0 (rd 4), odE [] 0 (rd 5)] F_volume_counts) (by decide) (by decide) nd rfl (by first | exact Or.inl rfl | exact Or.inr rfl) (ve_fn (k := 0) (fn := F_volume_counts) (C_volume_counts.mono (by decide)) hr (va_cons (vo_e (T := []) (k := 0) (f := rd 3) (xv 3)) (va_cons (vo_e (T := []) (k := 0) (f := rd 4) (xv 4)) (va_cons (vo_e (T := []) (k := 0) (f := rd 5) (xv 5)) (va_nil) (by decide)) (by decide)) (by decide))))   (vss_cons (κ1 := [0, 0, 0, 0, 0, 0, 0, 0, 0, 0, 0, 0, 0, 0, 0, 0, 0]) (s := L6)   (vs_if (T := []) (t := orF (tstF (opF neD [odK 0 6, odE [] 1 (opF slRD [odK 0 6])])) (orF (tstF (opF neD [odE [] 0 (opF lenD [odK 0 6]), odE [] 1 (opF addD [odE [] 0 (opF mulD [odE [] 0 (opF mulD [odK 0 3, odK 0 4]), odK 0 5]), odE [] 0 (cF (.int 1))])])) (tstF (opF neD [odK 0 6, odE [] 0 (callF [odE [] 0 (rd 5), odE [] 0 (rd 3), odE [] 0 (rd 4)] F_volume_counts)])))) ((vw_or (vt_cmp (op_neA hu) (O_ne ) (xo 6) (vo_e (T := []) (k := 1) (f := opF slRD [odK 0 6]) (ve_slR (xo 6) (by decide))) (by decide)) (vw_or (vt_cmp (op_neA hu) (O_ne ) (vo_e (T := []) (k := 0) (f := opF lenD [odK 0 6]) (ve_callB call_len (O_len (k := 0)) (by rfl) (by exact bn "len" (by decide)) vb_len (va_cons (xo 6) (va_nil) (by decide)))) (vo_e (T := []) (k := 1) (f := opF addD [odE [] 0 (opF mulD [odE [] 0 (opF mulD [odK 0 3, odK 0 4]), odK 0 5]), odE [] 0 (cF (.int 1))]) (ve_bin op_addA (O_add (by decide) (by decide)) (vo_e (T := []) (k := 0) (f := opF mulD [odE [] 0 (opF mulD [odK 0 3, odK 0 4]), odK 0 5]) (ve_bin op_mulA (O_mul (k := 0)) (vo_e (T := []) (k := 0) (f := opF mulD [odK 0 3, odK 0 4]) (ve_bin op_mulA (O_mul (k := 0)) (xo 3) (xo 4) (by decide))) (xo 5) (by decide))) (vo_e (T := []) (k := 0) (f := cF (.int 1)) (ve_int (k := 0))) (by decide))) (by decide)) (vw_or1 (vt_cmp (op_neA hu) (O_ne ) (xo 6) (vo_e (T := []) (k := 0) (f := callF [odE [] 0 (rd 5), odE [] 0 (rd 3), odE [] 0 (rd 4)] F_volume_counts) (ve_fn (k := 0) (fn := F_volume_counts) (C_volume_counts.mono (by decide)) hr (va_cons (vo_e (T := []) (k := 0) (f := rd 5) (xv 5)) (va_cons (vo_e (T := []) (k := 0) (f := rd 3) (xv 3)) (va_cons (vo_e (T := []) (k := 0) (f := rd 4) (xv 4)) (va_nil) (by decide)) (by decide)) (by decide)))) (by decide))))).pt)  (vss_cons (κ1 := [0, 0, 0, 0, 0, 0, 0, 0, 0, 0, 0, 0, 0, 0, 0, 0, 0]) (s := retS (cF (.bl false)))   (vs_ret (T := []) (f := cF (.bl false)) (ve_bl (k := 0)))   (vss_nil))  (vss_nil))   (vss_cons (κ1 := [0, 0, 0, 0, 0, 0, 0, 0, 0, 0, 0, 0, 0, 0, 0, 0, 0]) (s := L7)   (vs_set (i := 7) (T := []) (j := 0) (f := opF min3D [odK 0 3, odK 0 4, odK 0 5]) (by decide) (by decide) nd rfl (by first | exact Or.inl rfl | exact Or.inr rfl) (ve_callB (call_min3 rfl) (O_min3 (k := 0)) (by rfl) (by exact bn "min" (by decide)) vb_min (va_cons (xo 3) (va_cons (xo 4) (va_cons (xo 5) (va_nil) (by decide)) (by decide)) (by decide))))   (vss_kill 3 0 (by decide) (vss_kill 4 0 (by decide) (vss_kill 5 0 (by decide) (vss_cons (κ1 := [0, 0, 0, 0, 0, 0, 0, 0, 0, 0, 0, 0, 0, 0, 0, 0, 0]) (s := L8)   (vs_set (i := 8) (T := []) (j := 0) (f := callF [odE [] 0 (cF (.int 30))] F_ulaw_any) (by decide) (by decide) nd rfl (by first | exact Or.inl rfl | exact Or.inr rfl) (ve_fn (k := 0) (fn := F_ulaw_any) (C_ulaw_any.mono (by decide)) hr (va_cons (vo_e (T := []) (k := 0) (f := cF (.int 30)) (ve_int (k := 0))) (va_nil) (by decide))))   (vss_cons (κ1 := [0, 0, 0, 0, 0, 0, 0, 0, 0, 0, 0, 0, 0, 0, 0, 0, 0]) (s := L9)   (vs_ret (T := []) (f := andV (callF [odE [] 0 (rd 8), odE [] 0 (callF [odE [] 0 (cF (.int 30))] F_all_counts)] (F_ulaw_exact 12)) (opF eqD [odE [] 1 (opF slHD [odK 0 6, odE [] 1 (opF addD [odK 0 7, odE [] 0 (cF (.int 1))])]), odE [] 1 (opF slHD [odK 0 8, odE [] 1 (opF addD [odK 0 7, odE [] 0 (cF (.int 1))])])])) (ve_and (k := 0) (ve_fn (k := 0) (fn := (F_ulaw_exact 12)) (C_ulaw_exact.mono (by decide)) hr (va_cons (vo_e (T := []) (k := 0) (f := rd 8) (xv 8)) (va_cons (vo_e (T := []) (k := 0) (f := callF [odE [] 0 (cF (.int 30))] F_all_counts) (ve_fn (k := 0) (fn := F_all_counts) (C_all_counts.mono (by decide)) hr (va_cons (vo_e (T := []) (k := 0) (f := cF (.int 30)) (ve_int (k := 0))) (va_nil) (by decide)))) (va_nil) (by decide)) (by decide))) (ve_one (ve_cmp (op_eqA hu) (O_eq (k := 0)) (vo_e (T := []) (k := 1) (f := opF slHD [odK 0 6, odE [] 1 (opF addD [odK 0 7, odE [] 0 (cF (.int 1))])]) (ve_slH sl_any (O_slH (by decide)) (xo 6) (vo_e (T := []) (k := 1) (f := opF addD [odK 0 7, odE [] 0 (cF (.int 1))]) (ve_bin op_addA (O_add (by decide) (by decide)) (xo 7) (vo_e (T := []) (k := 0) (f := cF (.int 1)) (ve_int (k := 0))) (by decide))) (by decide))) (vo_e (T := []) (k := 1) (f := opF slHD [odK 0 8, odE [] 1 (opF addD [odK 0 7, odE [] 0 (cF (.int 1))])]) (ve_slH sl_any (O_slH (by decide)) (xo 8) (vo_e (T := []) (k := 1) (f := opF addD [odK 0 7, odE [] 0 (cF (.int 1))]) (ve_bin op_addA (O_add (by decide) (by decide)) (xo 7) (vo_e (T := []) (k := 0) (f := cF (.int 1)) (ve_int (k := 0))) (by decide))) (by decide))) (by decide)))))   (vss_nil)))))))))))))))))
  exact h

/-! ### polynomials as lists -/
def dI (r : List Int) : D := .lst (r.map .int)
theorem dI_rd (r : List Int) (ρ : List D) : rdC (some (dI r)) ρ = some (dI r, ρ) := id rfl
def tlL (r : List Int) (k : Nat) : List Int := List.zipWith (· - ·) (r ++ List.replicate k 0) (List.replicate k 0 ++ r)
def blQ : List Int → List Int → List Int
  | _, [] => []
  | [], x :: xs => x :: blQ [] xs
  | q :: qs, x :: xs => (x + q) :: blQ (qs ++ [x + q]) xs
def blL (r : List Int) (k : Nat) : List Int := blQ (List.replicate k 0) r
theorem blQ_len : ∀ (q xs : List Int), (blQ q xs).length = xs.length
  | q, [] => by cases q <;> rfl
  | [], x :: xs => by show (blQ [] xs).length + 1 = _; rw [blQ_len]; rfl
  | q :: qs, x :: xs => by show (blQ (qs ++ [x + q]) xs).length + 1 = _; rw [blQ_len]; rfl
theorem blQ_get : ∀ (xs q : List Int) (i : Nat), q ≠ [] → i < xs.length → (blQ q xs).getD i 0 = xs.getD i 0 + (q ++ blQ q xs).getD i 0
  | [], _, i, _, h => by simp at h
  | x :: xs, [], i, hq, _ => absurd rfl hq
  | x :: xs, q :: qs, 0, _, _ => rfl
  | x :: xs, q :: qs, i + 1, _, h => by
    have := blQ_get xs (qs ++ [x + q]) i (by simp) (by simpa using h)
    show (blQ (qs ++ [x + q]) xs).getD i 0 = xs.getD i 0 + (qs ++ ((x + q) :: blQ (qs ++ [x + q]) xs)).getD i 0
    rw [this, List.append_assoc]; rfl
theorem tlL_len (r : List Int) (k : Nat) : (tlL r k).length = r.length + k := by
  unfold tlL; simp; omega
def tlO (r : List Int) (k : Nat) : Option (List Int) := if r.length ≤ 10000 ∧ k ≤ 10000 then some (tlL r k) else none
def blO (r : List Int) (k : Nat) : Option (List Int) := if r.length ≤ 20000 ∧ k ≤ r.length ∧ 1 ≤ k then some ((blL r k).take (r.length - k)) else none
/-- the part done -/
theorem take_set {α : Type} (F t : List α) (m : Nat) (v : α) (hm : m < t.length) (hF : F[m]? = some v) : (F.take m ++ t.drop m).set m v = F.take (m + 1) ++ t.drop (m + 1) := by
  obtain ⟨hl, e⟩ := List.getElem?_eq_some_iff.mp hF
  refine List.ext_getElem? fun i => ?_
  rw [List.getElem?_set]
  have hlen : (F.take m).length = m := by rw [List.length_take]; omega
  have hlen2 : (F.take (m + 1)).length = m + 1 := by rw [List.length_take]; omega
  by_cases h : m = i
  · subst h
    rw [if_pos rfl, if_pos (by rw [List.length_append, hlen, List.length_drop]; omega), List.getElem?_append_left (by omega), List.getElem?_take, if_pos (by omega), hF]
  · rw [if_neg h]
    by_cases h2 : i < m
    · rw [List.getElem?_append_left (by omega), List.getElem?_append_left (by omega), List.getElem?_take, List.getElem?_take, if_pos h2, if_pos (by omega)]
    · rw [List.getElem?_append_right (by omega), List.getElem?_append_right (by omega), hlen, hlen2, List.getElem?_drop, List.getElem?_drop]
      congr 1; omega
theorem getD_get? {l : List Int} {i : Nat} (h : i < l.length) : l[i]? = some (l.getD i 0) := by
  rw [List.getD_eq_getElem?_getD, List.getElem?_eq_getElem h]; rfl
theorem times_less_ok {r r' : List Int} {k : Nat} (h : tlO r k = some r') : F_times_less [dI r, eN k] = some (dI r', [dI r, eN k]) := by
  unfold tlO at h
  split at h
  case isFalse => cases h
  rename_i hh
  cases h
  obtain ⟨hr, hk⟩ := hh
  have hmul : mulLD [.lst [.int 0], eN k] = some (dI (List.replicate k 0)) := by
    show mulLD [.lst [.int 0], .int (k : Nat)] = _
    rw [mulLD_one (by rw [sizeLine_eq]; omega)]
    unfold dI; rw [List.map_replicate]
  have hadd : addD [dI r, dI (List.replicate k 0)] = some (dI (r ++ List.replicate k 0)) := by
    unfold dI; rw [addD_lst (by simp [sizeLine_eq]; omega), List.map_append]
  -- the middle: the first k and m more are done
  let F := tlL r k
  have hF : F.length = r.length + k := tlL_len r k
  let t0 := r ++ List.replicate k 0
  have ht0 : t0.length = r.length + k := by simp [t0]
  have Fget : ∀ i, i < r.length + k → F.getD i 0 = t0.getD i 0 - (List.replicate k 0 ++ r).getD i 0 := by
    intro i hi
    have h1 : i < t0.length := by omega
    have h2 : i < (List.replicate k (0 : Int) ++ r).length := by simp; omega
    rw [List.getD_eq_getElem?_getD, List.getD_eq_getElem?_getD, List.getD_eq_getElem?_getD]
    show ((List.zipWith (· - ·) t0 (List.replicate k 0 ++ r))[i]?).getD 0 = _
    rw [List.getElem?_zipWith, List.getElem?_eq_getElem h1, List.getElem?_eq_getElem h2]
    rfl
  have Flow : F.take k = t0.take k := by
    refine List.ext_getElem? fun i => ?_
    rw [List.getElem?_take, List.getElem?_take]
    split
    · rename_i hi
      rw [getD_get? (by omega), getD_get? (by omega), Fget i (by omega)]
      rw [List.getD_eq_getElem?_getD (l := List.replicate k 0 ++ r), List.getElem?_append_left (by simpa using hi), List.getElem?_replicate, if_pos hi]
      simp
    · rfl
  have lp := loop_inv (e := fun p : Int × Nat => .tup [.int (p.2 : Nat), .int p.1]) (m := tgT [tgN 3, tgN 4]) (s := times_less_b1) (fun t : List Int => [dI r, eN k, dI t, .und, .und])
    (fun t p => t.set (p.2 + k) (F.getD (p.2 + k) 0)) (fun pre t => t = F.take (k + pre.length) ++ t0.drop (k + pre.length)) r.zipIdx (fun pre p post t hp hi => by
      have hlen : r.zipIdx.length = r.length := by simp
      have hm : r.zipIdx[pre.length]? = some p := by rw [hp]; simp
      have hml : pre.length < r.length := by
        rw [← hlen]; exact (List.getElem?_eq_some_iff.mp hm).1
      rw [List.getElem?_zipIdx, List.getElem?_eq_getElem hml] at hm
      simp only [Option.map_some, Nat.zero_add, Option.some.injEq] at hm
      obtain ⟨p1, p2⟩ := p
      simp only [Prod.mk.injEq] at hm
      obtain ⟨rfl, rfl⟩ := hm
      have htl : t.length = r.length + k := by rw [hi, List.length_append, List.length_take, List.length_drop]; omega
      have hget : t[pre.length + k]? = some (t0.getD (pre.length + k) 0) := by
        rw [hi, List.getElem?_append_right (by rw [List.length_take]; omega), List.length_take, List.getElem?_drop, ← getD_get? (by omega), show k + pre.length + (pre.length + k - min (k + pre.length) F.length) = pre.length + k by omega]
      have hr2 : (List.replicate k 0 ++ r).getD (pre.length + k) 0 = r[pre.length] := by
        rw [List.getD_eq_getElem?_getD, List.getElem?_append_right (by simp), List.length_replicate, show pre.length + k - k = pre.length by omega, List.getElem?_eq_getElem hml]; rfl
      constructor
      · rw [turn_T2]
        unfold times_less_b1
        have a1 : addD [.int (pre.length : Nat), eN k] = some (.int ((pre.length + k : Nat) : Int)) := addD_eN _ _
        have x1 : ixD [dI t, .int ((pre.length + k : Nat) : Int)] = some (.int (t0.getD (pre.length + k) 0)) := ixD_lst (by rw [List.getElem?_map, hget]; rfl)
        have st : ∀ ρ, stC2 2 (.int (t0.getD (pre.length + k) 0 - r[pre.length])) (t.map .int) (some (.int ((pre.length + k : Nat) : Int), ρ)) = some (.nx (ρ.set 2 (dI (t.set (pre.length + k) (F.getD (pre.length + k) 0))))) := by
          intro ρ
          rw [stC2_so _ _ _ _ _ (by omega) (by rw [List.length_map, htl]; omega), Int.toNat_natCast, Fget _ (by omega), hr2]
          unfold dI; rw [List.map_set]
        have rdt : ∀ (v : D) g ρ, stC1 2 v g ρ (some (dI t)) = stC2 2 v (t.map .int) (g ρ) := fun v g ρ => rfl
        simp only [seqS_ap, contS_nx, contS_rt, contS_bk, contS_ct, nilS_ap, killS_ap, setS_ap, setC_so, dropS_ap, dropC_so, retS_ap, retC_so, retN_ap, bkS_ap, ctS_ap, ifS_ap, ifC_t, ifC_f, forS_ap, forC_so, asgS_ap, asgC_so, seqF_nil, seqF_cons, seqC_so, seqC2_so, odK_f, odK_al, odE_f, odE_al, opF_ap, opC_so, opC2_so, cF_ap, rd_ap, rdC_non, rdC_bl, rdC_int, rdC_str, rdC_tup, rdC_lst, rdC_dct, callF_ap, callC_so, callC2_so, wb_nil, wb_e, wb_k, tstF_ap, tstC_so, notF_ap, notC_so, andF_ap, andC_t, andC_f, orF_ap, orC_t, orC_f, ifF_ap, ifFC_t, ifFC_f, blF_ap, blC_so, andV_ap, andVC_t, andVC_f, orV_ap, orVC_t, orVC_f, notV_ap, notVC_so, truO_ap, truC_bl, truC_int, truC_lst, truC_tup, truC_non, fnF_ap, fnC_rt, fnC_nx, par2_ap, parC_so, parC2_so, par3_ap, par3C_so, par3C2_so, par3C3_so, tgN_ap, tgT2_ap, tgT3_ap, appF_ap, appC0_so, stS_ap, stC_so, stC1_so, yesF_ap, List.set_cons_zero, List.set_cons_succ, List.getElem?_cons_zero, List.getElem?_cons_succ, Option.map_some, Bool.not_true, Bool.not_false, Bool.false_eq_true, if_true, if_false, reduceCtorEq, ltD_int, leD_int, gtD_int, geD_int, max2D_int, negD_int, intD_int, intD_bl, eqD_int, neD_int, eqD_bl, neD_bl, lenD_lst, lenD_tup, listD_lst, listD_tup, tupleD_lst, tupleD_tup, lstD_0, lstD_1, lstD_2, lstD_3, tupD_0, tupD_1, tupD_2, tupD_3, slRD_lst, slRD_tup, eN_rd, dI_rd, a1, x1, subD_int, rdt, st]
      · show t.set (pre.length + k) (F.getD (pre.length + k) 0) = _
        rw [hi, show pre.length + k = k + pre.length by omega, take_set F t0 (k + pre.length) _ (by omega) (getD_get? (by omega))]
        simp only [List.length_append, List.length_cons, List.length_nil, Nat.add_assoc]) [] r.zipIdx t0 rfl (by
        show t0 = F.take (k + 0) ++ t0.drop (k + 0)
        rw [Nat.add_zero, Flow, List.take_append_drop])
  obtain ⟨lp1, lp2⟩ := lp
  rw [lp2] at lp1
  have hfin : F.take (k + r.zipIdx.length) ++ t0.drop (k + r.zipIdx.length) = F := by
    have : k + r.zipIdx.length = F.length := by rw [hF]; simp; omega
    rw [this, List.take_length, List.drop_eq_nil_of_le (by omega), List.append_nil]
  rw [hfin] at lp1
  have src : enumSrc (rd 0) [dI r, eN k, dI t0, .und, .und] = some (r.zipIdx.map (fun p : Int × Nat => .tup [.int (p.2 : Nat), .int p.1]), [dI r, eN k, dI t0, .und, .und]) := by
    rw [enumSrc_lst (f := rd 0) (xs := r.map .int) (r := [dI r, eN k, dI t0, .und, .und]) rfl, enumD_map]
  refine fn_of (ρ0 := [dI r, eN k, .und, .und, .und]) (r := [dI r, eN k, dI F, .und, .und]) rfl ?_
  unfold S_times_less
  simp only [seqS_ap, contS_nx, contS_rt, contS_bk, contS_ct, nilS_ap, killS_ap, setS_ap, setC_so, dropS_ap, dropC_so, retS_ap, retC_so, retN_ap, bkS_ap, ctS_ap, ifS_ap, ifC_t, ifC_f, forS_ap, forC_so, asgS_ap, asgC_so, seqF_nil, seqF_cons, seqC_so, seqC2_so, odK_f, odK_al, odE_f, odE_al, opF_ap, opC_so, opC2_so, cF_ap, rd_ap, rdC_non, rdC_bl, rdC_int, rdC_str, rdC_tup, rdC_lst, rdC_dct, callF_ap, callC_so, callC2_so, wb_nil, wb_e, wb_k, tstF_ap, tstC_so, notF_ap, notC_so, andF_ap, andC_t, andC_f, orF_ap, orC_t, orC_f, ifF_ap, ifFC_t, ifFC_f, blF_ap, blC_so, andV_ap, andVC_t, andVC_f, orV_ap, orVC_t, orVC_f, notV_ap, notVC_so, truO_ap, truC_bl, truC_int, truC_lst, truC_tup, truC_non, fnF_ap, fnC_rt, fnC_nx, par2_ap, parC_so, parC2_so, par3_ap, par3C_so, par3C2_so, par3C3_so, tgN_ap, tgT2_ap, tgT3_ap, appF_ap, appC0_so, stS_ap, stC_so, stC1_so, yesF_ap, List.set_cons_zero, List.set_cons_succ, List.getElem?_cons_zero, List.getElem?_cons_succ, Option.map_some, Bool.not_true, Bool.not_false, Bool.false_eq_true, if_true, if_false, reduceCtorEq, ltD_int, leD_int, gtD_int, geD_int, max2D_int, negD_int, intD_int, intD_bl, eqD_int, neD_int, eqD_bl, neD_bl, lenD_lst, lenD_tup, listD_lst, listD_tup, tupleD_lst, tupleD_tup, lstD_0, lstD_1, lstD_2, lstD_3, tupD_0, tupD_1, tupD_2, tupD_3, slRD_lst, slRD_tup, eN_rd, dI_rd, hmul, hadd]
  rw [show enumSrc (rd 0) [dI r, eN k, dI (r ++ List.replicate k 0), .und, .und] = _ from src]
  simp only [seqS_ap, contS_nx, contS_rt, contS_bk, contS_ct, nilS_ap, killS_ap, setS_ap, setC_so, dropS_ap, dropC_so, retS_ap, retC_so, retN_ap, bkS_ap, ctS_ap, ifS_ap, ifC_t, ifC_f, forS_ap, forC_so, asgS_ap, asgC_so, seqF_nil, seqF_cons, seqC_so, seqC2_so, odK_f, odK_al, odE_f, odE_al, opF_ap, opC_so, opC2_so, cF_ap, rd_ap, rdC_non, rdC_bl, rdC_int, rdC_str, rdC_tup, rdC_lst, rdC_dct, callF_ap, callC_so, callC2_so, wb_nil, wb_e, wb_k, tstF_ap, tstC_so, notF_ap, notC_so, andF_ap, andC_t, andC_f, orF_ap, orC_t, orC_f, ifF_ap, ifFC_t, ifFC_f, blF_ap, blC_so, andV_ap, andVC_t, andVC_f, orV_ap, orVC_t, orVC_f, notV_ap, notVC_so, truO_ap, truC_bl, truC_int, truC_lst, truC_tup, truC_non, fnF_ap, fnC_rt, fnC_nx, par2_ap, parC_so, parC2_so, par3_ap, par3C_so, par3C2_so, par3C3_so, tgN_ap, tgT2_ap, tgT3_ap, appF_ap, appC0_so, stS_ap, stC_so, stC1_so, yesF_ap, List.set_cons_zero, List.set_cons_succ, List.getElem?_cons_zero, List.getElem?_cons_succ, Option.map_some, Bool.not_true, Bool.not_false, Bool.false_eq_true, if_true, if_false, reduceCtorEq, ltD_int, leD_int, gtD_int, geD_int, max2D_int, negD_int, intD_int, intD_bl, eqD_int, neD_int, eqD_bl, neD_bl, lenD_lst, lenD_tup, listD_lst, listD_tup, tupleD_lst, tupleD_tup, lstD_0, lstD_1, lstD_2, lstD_3, tupD_0, tupD_1, tupD_2, tupD_3, slRD_lst, slRD_tup, lp1, dI_rd]
  rfl
theorem by_less_ok {r r' : List Int} {k : Nat} (h : blO r k = some r') : F_by_less [dI r, eN k] = some (dI r', [dI r, eN k]) := by
  unfold blO at h
  split at h
  case isFalse => cases h
  rename_i hh
  cases h
  obtain ⟨hr, hk, hk1⟩ := hh
  let F := blL r k
  have hF : F.length = r.length := blQ_len _ _
  have Fget : ∀ i, i < r.length → F.getD i 0 = r.getD i 0 + (List.replicate k 0 ++ F).getD i 0 := fun i hi => blQ_get r (List.replicate k 0) i (by simp; omega) hi
  have Flow : F.take k = r.take k := by
    refine List.ext_getElem? fun i => ?_
    rw [List.getElem?_take, List.getElem?_take]
    split
    · rename_i hi
      rw [getD_get? (by omega), getD_get? (by omega), Fget i (by omega)]
      rw [List.getD_eq_getElem?_getD (l := List.replicate k 0 ++ F), List.getElem?_append_left (by simpa using hi), List.getElem?_replicate, if_pos hi]
      simp
    · rfl
  have lp := loop_inv (e := eN) (m := tgN 3) (s := by_less_b1) (fun t : List Int => [dI r, eN k, dI t, .und])
    (fun t i => t.set i (F.getD i 0)) (fun pre t => t = F.take (k + pre.length) ++ r.drop (k + pre.length)) (List.range' k (r.length - k)) (fun pre p post t hp hi => by
      have hm : (List.range' k (r.length - k))[pre.length]? = some p := by rw [hp]; simp
      obtain ⟨hml, hme⟩ := List.getElem?_eq_some_iff.mp hm
      rw [List.length_range'] at hml
      rw [List.getElem_range'] at hme
      have hpe : p = k + pre.length := by omega
      subst hpe
      have htl : t.length = r.length := by rw [hi, List.length_append, List.length_take, List.length_drop]; omega
      have hget : t[k + pre.length]? = some (r.getD (k + pre.length) 0) := by
        rw [hi, List.getElem?_append_right (by rw [List.length_take]; omega), List.length_take, List.getElem?_drop, ← getD_get? (by omega), show k + pre.length + (k + pre.length - min (k + pre.length) F.length) = k + pre.length by omega]
      have hget2 : t[pre.length]? = some (F.getD pre.length 0) := by
        rw [hi, List.getElem?_append_left (by rw [List.length_take]; omega), List.getElem?_take, if_pos (by omega), getD_get? (by omega)]
      have hF2 : (List.replicate k 0 ++ F).getD (k + pre.length) 0 = F.getD pre.length 0 := by
        rw [List.getD_eq_getElem?_getD, List.getElem?_append_right (by simp), List.length_replicate, show k + pre.length - k = pre.length by omega, ← List.getD_eq_getElem?_getD]
      constructor
      · rw [turn_N]
        unfold by_less_b1
        have a1 : subD [eN (k + pre.length), eN k] = some (eN pre.length) := by rw [subD_eN (by omega), show k + pre.length - k = pre.length by omega]
        have x1 : ixD [dI t, eN (k + pre.length)] = some (.int (r.getD (k + pre.length) 0)) := ixD_lst (by rw [List.getElem?_map, hget]; rfl)
        have x2 : ixD [dI t, eN pre.length] = some (.int (F.getD pre.length 0)) := ixD_lst (by rw [List.getElem?_map, hget2]; rfl)
        have st : ∀ ρ, stC2 2 (.int (r.getD (k + pre.length) 0 + F.getD pre.length 0)) (t.map .int) (some (eN (k + pre.length), ρ)) = some (.nx (ρ.set 2 (dI (t.set (k + pre.length) (F.getD (k + pre.length) 0))))) := by
          intro ρ
          unfold eN
          rw [stC2_so _ _ _ _ _ (by omega) (by rw [List.length_map, htl]; omega), Int.toNat_natCast, Fget (k + pre.length) (by omega), hF2]
          unfold dI; rw [List.map_set]
        have rdt : ∀ (v : D) g ρ, stC1 2 v g ρ (some (dI t)) = stC2 2 v (t.map .int) (g ρ) := fun v g ρ => rfl
        simp only [seqS_ap, contS_nx, contS_rt, contS_bk, contS_ct, nilS_ap, killS_ap, setS_ap, setC_so, dropS_ap, dropC_so, retS_ap, retC_so, retN_ap, bkS_ap, ctS_ap, ifS_ap, ifC_t, ifC_f, forS_ap, forC_so, asgS_ap, asgC_so, seqF_nil, seqF_cons, seqC_so, seqC2_so, odK_f, odK_al, odE_f, odE_al, opF_ap, opC_so, opC2_so, cF_ap, rd_ap, rdC_non, rdC_bl, rdC_int, rdC_str, rdC_tup, rdC_lst, rdC_dct, callF_ap, callC_so, callC2_so, wb_nil, wb_e, wb_k, tstF_ap, tstC_so, notF_ap, notC_so, andF_ap, andC_t, andC_f, orF_ap, orC_t, orC_f, ifF_ap, ifFC_t, ifFC_f, blF_ap, blC_so, andV_ap, andVC_t, andVC_f, orV_ap, orVC_t, orVC_f, notV_ap, notVC_so, truO_ap, truC_bl, truC_int, truC_lst, truC_tup, truC_non, fnF_ap, fnC_rt, fnC_nx, par2_ap, parC_so, parC2_so, par3_ap, par3C_so, par3C2_so, par3C3_so, tgN_ap, tgT2_ap, tgT3_ap, appF_ap, appC0_so, stS_ap, stC_so, stC1_so, yesF_ap, List.set_cons_zero, List.set_cons_succ, List.getElem?_cons_zero, List.getElem?_cons_succ, Option.map_some, Bool.not_true, Bool.not_false, Bool.false_eq_true, if_true, if_false, reduceCtorEq, ltD_int, leD_int, gtD_int, geD_int, max2D_int, negD_int, intD_int, intD_bl, eqD_int, neD_int, eqD_bl, neD_bl, lenD_lst, lenD_tup, listD_lst, listD_tup, tupleD_lst, tupleD_tup, lstD_0, lstD_1, lstD_2, lstD_3, tupD_0, tupD_1, tupD_2, tupD_3, slRD_lst, slRD_tup, eN_rd, dI_rd, a1, x1, x2, addD_int, rdt, st]
      · show t.set (k + pre.length) (F.getD (k + pre.length) 0) = _
        rw [hi, take_set F r (k + pre.length) _ (by omega) (getD_get? (by omega))]
        simp only [List.length_append, List.length_cons, List.length_nil, Nat.add_assoc]) [] (List.range' k (r.length - k)) r rfl (by
        show r = F.take (k + 0) ++ r.drop (k + 0)
        rw [Nat.add_zero, Flow, List.take_append_drop])
  obtain ⟨lp1, lp2⟩ := lp
  rw [lp2] at lp1
  have hfin : F.take (k + (List.range' k (r.length - k)).length) ++ r.drop (k + (List.range' k (r.length - k)).length) = F := by
    have : k + (List.range' k (r.length - k)).length = F.length := by rw [hF, List.length_range']; omega
    rw [this, List.take_length, List.drop_eq_nil_of_le (by omega), List.append_nil]
  rw [hfin] at lp1
  have hlen : ∀ t : List Int, lenD [dI t] = some (eN t.length) := fun t => by unfold dI; rw [lenD_lst, List.length_map]; rfl
  have src : rng2 [odK 0 1, odE [] 0 (opF lenD [odK 1 2])] [dI r, eN k, dI r, .und] = some ((List.range' k (r.length - k)).map eN, [dI r, eN k, dI r, .und]) := rng2_of (a := k) (b := r.length) (by simp only [seqS_ap, contS_nx, contS_rt, contS_bk, contS_ct, nilS_ap, killS_ap, setS_ap, setC_so, dropS_ap, dropC_so, retS_ap, retC_so, retN_ap, bkS_ap, ctS_ap, ifS_ap, ifC_t, ifC_f, forS_ap, forC_so, asgS_ap, asgC_so, seqF_nil, seqF_cons, seqC_so, seqC2_so, odK_f, odK_al, odE_f, odE_al, opF_ap, opC_so, opC2_so, cF_ap, rd_ap, rdC_non, rdC_bl, rdC_int, rdC_str, rdC_tup, rdC_lst, rdC_dct, callF_ap, callC_so, callC2_so, wb_nil, wb_e, wb_k, tstF_ap, tstC_so, notF_ap, notC_so, andF_ap, andC_t, andC_f, orF_ap, orC_t, orC_f, ifF_ap, ifFC_t, ifFC_f, blF_ap, blC_so, andV_ap, andVC_t, andVC_f, orV_ap, orVC_t, orVC_f, notV_ap, notVC_so, truO_ap, truC_bl, truC_int, truC_lst, truC_tup, truC_non, fnF_ap, fnC_rt, fnC_nx, par2_ap, parC_so, parC2_so, par3_ap, par3C_so, par3C2_so, par3C3_so, tgN_ap, tgT2_ap, tgT3_ap, appF_ap, appC0_so, stS_ap, stC_so, stC1_so, yesF_ap, List.set_cons_zero, List.set_cons_succ, List.getElem?_cons_zero, List.getElem?_cons_succ, Option.map_some, Bool.not_true, Bool.not_false, Bool.false_eq_true, if_true, if_false, reduceCtorEq, ltD_int, leD_int, gtD_int, geD_int, max2D_int, negD_int, intD_int, intD_bl, eqD_int, neD_int, eqD_bl, neD_bl, lenD_lst, lenD_tup, listD_lst, listD_tup, tupleD_lst, tupleD_tup, lstD_0, lstD_1, lstD_2, lstD_3, tupD_0, tupD_1, tupD_2, tupD_3, slRD_lst, slRD_tup, eN_rd, dI_rd, hlen]; rfl) (by omega) (by omega)
  have hl : listD [dI r] = some (dI r) := rfl
  have hs : slHD [dI F, eN (r.length - k)] = some (dI (F.take (r.length - k))) := by
    show some (D.lst (cutD (F.map .int) none (some ((r.length - k : Nat) : Int)))) = _
    unfold cutD HT.sIx dI
    dsimp only
    rw [if_neg (by omega), Int.toNat_natCast]
    simp only [List.drop_zero, Nat.sub_zero, List.length_map, hF, List.map_take]
    rw [Nat.min_eq_left (by omega)]
  have s2 : subD [eN r.length, eN k] = some (eN (r.length - k)) := subD_eN hk
  have hlF : lenD [dI F] = some (eN r.length) := by rw [hlen, hF]
  refine fn_of (ρ0 := [dI r, eN k, .und, .und]) (r := [dI r, eN k, dI F, .und]) rfl ?_
  unfold S_by_less
  simp only [seqS_ap, contS_nx, contS_rt, contS_bk, contS_ct, nilS_ap, killS_ap, setS_ap, setC_so, dropS_ap, dropC_so, retS_ap, retC_so, retN_ap, bkS_ap, ctS_ap, ifS_ap, ifC_t, ifC_f, forS_ap, forC_so, asgS_ap, asgC_so, seqF_nil, seqF_cons, seqC_so, seqC2_so, odK_f, odK_al, odE_f, odE_al, opF_ap, opC_so, opC2_so, cF_ap, rd_ap, rdC_non, rdC_bl, rdC_int, rdC_str, rdC_tup, rdC_lst, rdC_dct, callF_ap, callC_so, callC2_so, wb_nil, wb_e, wb_k, tstF_ap, tstC_so, notF_ap, notC_so, andF_ap, andC_t, andC_f, orF_ap, orC_t, orC_f, ifF_ap, ifFC_t, ifFC_f, blF_ap, blC_so, andV_ap, andVC_t, andVC_f, orV_ap, orVC_t, orVC_f, notV_ap, notVC_so, truO_ap, truC_bl, truC_int, truC_lst, truC_tup, truC_non, fnF_ap, fnC_rt, fnC_nx, par2_ap, parC_so, parC2_so, par3_ap, par3C_so, par3C2_so, par3C3_so, tgN_ap, tgT2_ap, tgT3_ap, appF_ap, appC0_so, stS_ap, stC_so, stC1_so, yesF_ap, List.set_cons_zero, List.set_cons_succ, List.getElem?_cons_zero, List.getElem?_cons_succ, Option.map_some, Bool.not_true, Bool.not_false, Bool.false_eq_true, if_true, if_false, reduceCtorEq, ltD_int, leD_int, gtD_int, geD_int, max2D_int, negD_int, intD_int, intD_bl, eqD_int, neD_int, eqD_bl, neD_bl, lenD_lst, lenD_tup, listD_lst, listD_tup, tupleD_lst, tupleD_tup, lstD_0, lstD_1, lstD_2, lstD_3, tupD_0, tupD_1, tupD_2, tupD_3, slRD_lst, slRD_tup, eN_rd, dI_rd, hl, src, lp1, hlF, s2, hs]
  rfl
/-! ### volume_counts -/
def vcO (a b c : Nat) : Option (List Int) :=
  ((List.range' 1 a).foldlM (fun r x => (List.range' 1 b).foldlM (fun r y => tlO r (x + y + c - 1)) r) [1]).bind fun r =>
  (List.range' 1 a).foldlM (fun r x => (List.range' 1 b).foldlM (fun r y => blO r (x + y - 1)) r) r
theorem volume_counts_ok {a b c : Nat} {v : List Int} (ha : a ≤ 1000) (hb : b ≤ 1000) (hc : c ≤ 1000) (h : vcO a b c = some v) : F_volume_counts [eN a, eN b, eN c] = some (dI v, [eN a, eN b, eN c]) := by
  unfold vcO at h
  obtain ⟨r, h1, h2⟩ := Option.bind_eq_some_iff.mp h
  have a1 : ∀ n : Nat, addD [eN n, .int 1] = some (eN (n + 1)) := fun n => by unfold eN; rw [addD_int]; rfl
  have s1 : ∀ n : Nat, 1 ≤ n → subD [eN n, .int 1] = some (eN (n - 1)) := fun n hn => by unfold eN; rw [subD_int]; exact congrArg (fun z => some (D.int z)) (by omega)
  have rngx : ∀ (d3 d5 : D), rng2 [odE [] 0 (cF (.int 1)), odE [] 1 (opF addD [odK 0 0, odE [] 0 (cF (.int 1))])] [eN a, eN b, eN c, d3, .und, d5] = some ((List.range' 1 a).map eN, [eN a, eN b, eN c, d3, .und, d5]) := fun d3 d5 => by
    have := rng2_of (os := [odE [] 0 (cF (.int 1)), odE [] 1 (opF addD [odK 0 0, odE [] 0 (cF (.int 1))])]) (ρ := [eN a, eN b, eN c, d3, .und, d5]) (r := [eN a, eN b, eN c, d3, .und, d5]) (a := 1) (b := a + 1) (by simp only [seqS_ap, contS_nx, contS_rt, contS_bk, contS_ct, nilS_ap, killS_ap, setS_ap, setC_so, dropS_ap, dropC_so, retS_ap, retC_so, retN_ap, bkS_ap, ctS_ap, ifS_ap, ifC_t, ifC_f, forS_ap, forC_so, asgS_ap, asgC_so, seqF_nil, seqF_cons, seqC_so, seqC2_so, odK_f, odK_al, odE_f, odE_al, opF_ap, opC_so, opC2_so, cF_ap, rd_ap, rdC_non, rdC_bl, rdC_int, rdC_str, rdC_tup, rdC_lst, rdC_dct, callF_ap, callC_so, callC2_so, wb_nil, wb_e, wb_k, tstF_ap, tstC_so, notF_ap, notC_so, andF_ap, andC_t, andC_f, orF_ap, orC_t, orC_f, ifF_ap, ifFC_t, ifFC_f, blF_ap, blC_so, andV_ap, andVC_t, andVC_f, orV_ap, orVC_t, orVC_f, notV_ap, notVC_so, truO_ap, truC_bl, truC_int, truC_lst, truC_tup, truC_non, fnF_ap, fnC_rt, fnC_nx, par2_ap, parC_so, parC2_so, par3_ap, par3C_so, par3C2_so, par3C3_so, tgN_ap, tgT2_ap, tgT3_ap, appF_ap, appC0_so, stS_ap, stC_so, stC1_so, yesF_ap, List.set_cons_zero, List.set_cons_succ, List.getElem?_cons_zero, List.getElem?_cons_succ, Option.map_some, Bool.not_true, Bool.not_false, Bool.false_eq_true, if_true, if_false, reduceCtorEq, ltD_int, leD_int, gtD_int, geD_int, max2D_int, negD_int, intD_int, intD_bl, eqD_int, neD_int, eqD_bl, neD_bl, lenD_lst, lenD_tup, listD_lst, listD_tup, tupleD_lst, tupleD_tup, lstD_0, lstD_1, lstD_2, lstD_3, tupD_0, tupD_1, tupD_2, tupD_3, slRD_lst, slRD_tup, eN_rd, a1]; rfl) (by omega) (by omega)
    rwa [show a + 1 - 1 = a by omega] at this
  have rngy : ∀ (d3 d4 : D), rng2 [odE [] 0 (cF (.int 1)), odE [] 1 (opF addD [odK 0 1, odE [] 0 (cF (.int 1))])] [eN a, eN b, eN c, d3, d4, .und] = some ((List.range' 1 b).map eN, [eN a, eN b, eN c, d3, d4, .und]) := fun d3 d4 => by
    have := rng2_of (os := [odE [] 0 (cF (.int 1)), odE [] 1 (opF addD [odK 0 1, odE [] 0 (cF (.int 1))])]) (ρ := [eN a, eN b, eN c, d3, d4, .und]) (r := [eN a, eN b, eN c, d3, d4, .und]) (a := 1) (b := b + 1) (by simp only [seqS_ap, contS_nx, contS_rt, contS_bk, contS_ct, nilS_ap, killS_ap, setS_ap, setC_so, dropS_ap, dropC_so, retS_ap, retC_so, retN_ap, bkS_ap, ctS_ap, ifS_ap, ifC_t, ifC_f, forS_ap, forC_so, asgS_ap, asgC_so, seqF_nil, seqF_cons, seqC_so, seqC2_so, odK_f, odK_al, odE_f, odE_al, opF_ap, opC_so, opC2_so, cF_ap, rd_ap, rdC_non, rdC_bl, rdC_int, rdC_str, rdC_tup, rdC_lst, rdC_dct, callF_ap, callC_so, callC2_so, wb_nil, wb_e, wb_k, tstF_ap, tstC_so, notF_ap, notC_so, andF_ap, andC_t, andC_f, orF_ap, orC_t, orC_f, ifF_ap, ifFC_t, ifFC_f, blF_ap, blC_so, andV_ap, andVC_t, andVC_f, orV_ap, orVC_t, orVC_f, notV_ap, notVC_so, truO_ap, truC_bl, truC_int, truC_lst, truC_tup, truC_non, fnF_ap, fnC_rt, fnC_nx, par2_ap, parC_so, parC2_so, par3_ap, par3C_so, par3C2_so, par3C3_so, tgN_ap, tgT2_ap, tgT3_ap, appF_ap, appC0_so, stS_ap, stC_so, stC1_so, yesF_ap, List.set_cons_zero, List.set_cons_succ, List.getElem?_cons_zero, List.getElem?_cons_succ, Option.map_some, Bool.not_true, Bool.not_false, Bool.false_eq_true, if_true, if_false, reduceCtorEq, ltD_int, leD_int, gtD_int, geD_int, max2D_int, negD_int, intD_int, intD_bl, eqD_int, neD_int, eqD_bl, neD_bl, lenD_lst, lenD_tup, listD_lst, listD_tup, tupleD_lst, tupleD_tup, lstD_0, lstD_1, lstD_2, lstD_3, tupD_0, tupD_1, tupD_2, tupD_3, slRD_lst, slRD_tup, eN_rd, a1]; rfl) (by omega) (by omega)
    rwa [show b + 1 - 1 = b by omega] at this
  have l1 : ∀ x : Nat, ∀ (ys : List Nat) (p q : List Int), (∀ y ∈ ys, 1 ≤ y) → ys.foldlM (fun r y => tlO r (x + y + c - 1)) p = some q → loopS (tgN 5) volume_counts_b1 (ys.map eN) [eN a, eN b, eN c, dI p, eN x, .und] = some (.nx [eN a, eN b, eN c, dI q, eN x, .und]) := by
    intro x ys
    induction ys with
    | nil => intro p q _ hf; rw [List.foldlM_nil] at hf; cases hf; rfl
    | cons y ys ih =>
      intro p q hy hf
      rw [List.foldlM_cons] at hf
      obtain ⟨p', hp, hf⟩ := Option.bind_eq_some_iff.mp hf
      have hy1 := hy y List.mem_cons_self
      have ht : turn (tgN 5) volume_counts_b1 (eN y) [eN a, eN b, eN c, dI p, eN x, .und] = some (.nx [eN a, eN b, eN c, dI p', eN x, .und]) := by
        rw [turn_N]
        unfold volume_counts_b1
        simp only [seqS_ap, contS_nx, contS_rt, contS_bk, contS_ct, nilS_ap, killS_ap, setS_ap, setC_so, dropS_ap, dropC_so, retS_ap, retC_so, retN_ap, bkS_ap, ctS_ap, ifS_ap, ifC_t, ifC_f, forS_ap, forC_so, asgS_ap, asgC_so, seqF_nil, seqF_cons, seqC_so, seqC2_so, odK_f, odK_al, odE_f, odE_al, opF_ap, opC_so, opC2_so, cF_ap, rd_ap, rdC_non, rdC_bl, rdC_int, rdC_str, rdC_tup, rdC_lst, rdC_dct, callF_ap, callC_so, callC2_so, wb_nil, wb_e, wb_k, tstF_ap, tstC_so, notF_ap, notC_so, andF_ap, andC_t, andC_f, orF_ap, orC_t, orC_f, ifF_ap, ifFC_t, ifFC_f, blF_ap, blC_so, andV_ap, andVC_t, andVC_f, orV_ap, orVC_t, orVC_f, notV_ap, notVC_so, truO_ap, truC_bl, truC_int, truC_lst, truC_tup, truC_non, fnF_ap, fnC_rt, fnC_nx, par2_ap, parC_so, parC2_so, par3_ap, par3C_so, par3C2_so, par3C3_so, tgN_ap, tgT2_ap, tgT3_ap, appF_ap, appC0_so, stS_ap, stC_so, stC1_so, yesF_ap, List.set_cons_zero, List.set_cons_succ, List.getElem?_cons_zero, List.getElem?_cons_succ, Option.map_some, Bool.not_true, Bool.not_false, Bool.false_eq_true, if_true, if_false, reduceCtorEq, ltD_int, leD_int, gtD_int, geD_int, max2D_int, negD_int, intD_int, intD_bl, eqD_int, neD_int, eqD_bl, neD_bl, lenD_lst, lenD_tup, listD_lst, listD_tup, tupleD_lst, tupleD_tup, lstD_0, lstD_1, lstD_2, lstD_3, tupD_0, tupD_1, tupD_2, tupD_3, slRD_lst, slRD_tup, eN_rd, dI_rd, addD_eN, s1 _ (show 1 ≤ x + y + c by omega), times_less_ok hp]
      rw [List.map_cons, loopS_cons, ht, loopC_nx]
      exact ih p' q (fun z hz => hy z (List.mem_cons_of_mem _ hz)) hf
  have l2 : ∀ x : Nat, ∀ (ys : List Nat) (p q : List Int), (∀ y ∈ ys, 1 ≤ y) → ys.foldlM (fun r y => blO r (x + y - 1)) p = some q → loopS (tgN 5) volume_counts_b3 (ys.map eN) [eN a, eN b, eN c, dI p, eN x, .und] = some (.nx [eN a, eN b, eN c, dI q, eN x, .und]) := by
    intro x ys
    induction ys with
    | nil => intro p q _ hf; rw [List.foldlM_nil] at hf; cases hf; rfl
    | cons y ys ih =>
      intro p q hy hf
      rw [List.foldlM_cons] at hf
      obtain ⟨p', hp, hf⟩ := Option.bind_eq_some_iff.mp hf
      have hy1 := hy y List.mem_cons_self
      have ht : turn (tgN 5) volume_counts_b3 (eN y) [eN a, eN b, eN c, dI p, eN x, .und] = some (.nx [eN a, eN b, eN c, dI p', eN x, .und]) := by
        rw [turn_N]
        unfold volume_counts_b3
        simp only [seqS_ap, contS_nx, contS_rt, contS_bk, contS_ct, nilS_ap, killS_ap, setS_ap, setC_so, dropS_ap, dropC_so, retS_ap, retC_so, retN_ap, bkS_ap, ctS_ap, ifS_ap, ifC_t, ifC_f, forS_ap, forC_so, asgS_ap, asgC_so, seqF_nil, seqF_cons, seqC_so, seqC2_so, odK_f, odK_al, odE_f, odE_al, opF_ap, opC_so, opC2_so, cF_ap, rd_ap, rdC_non, rdC_bl, rdC_int, rdC_str, rdC_tup, rdC_lst, rdC_dct, callF_ap, callC_so, callC2_so, wb_nil, wb_e, wb_k, tstF_ap, tstC_so, notF_ap, notC_so, andF_ap, andC_t, andC_f, orF_ap, orC_t, orC_f, ifF_ap, ifFC_t, ifFC_f, blF_ap, blC_so, andV_ap, andVC_t, andVC_f, orV_ap, orVC_t, orVC_f, notV_ap, notVC_so, truO_ap, truC_bl, truC_int, truC_lst, truC_tup, truC_non, fnF_ap, fnC_rt, fnC_nx, par2_ap, parC_so, parC2_so, par3_ap, par3C_so, par3C2_so, par3C3_so, tgN_ap, tgT2_ap, tgT3_ap, appF_ap, appC0_so, stS_ap, stC_so, stC1_so, yesF_ap, List.set_cons_zero, List.set_cons_succ, List.getElem?_cons_zero, List.getElem?_cons_succ, Option.map_some, Bool.not_true, Bool.not_false, Bool.false_eq_true, if_true, if_false, reduceCtorEq, ltD_int, leD_int, gtD_int, geD_int, max2D_int, negD_int, intD_int, intD_bl, eqD_int, neD_int, eqD_bl, neD_bl, lenD_lst, lenD_tup, listD_lst, listD_tup, tupleD_lst, tupleD_tup, lstD_0, lstD_1, lstD_2, lstD_3, tupD_0, tupD_1, tupD_2, tupD_3, slRD_lst, slRD_tup, eN_rd, dI_rd, addD_eN, s1 _ (show 1 ≤ x + y by omega), by_less_ok hp]
      rw [List.map_cons, loopS_cons, ht, loopC_nx]
      exact ih p' q (fun z hz => hy z (List.mem_cons_of_mem _ hz)) hf
  have y1 : ∀ y ∈ List.range' 1 b, 1 ≤ y := fun y hy => (List.mem_range'_1.mp hy).1
  have m1 := loop_opt (e := eN) (m := tgN 4) (s := volume_counts_b2) (fun p : List Int => [eN a, eN b, eN c, dI p, .und, .und]) (fun r x => (List.range' 1 b).foldlM (fun r y => tlO r (x + y + c - 1)) r) (fun p x q hq => by
    rw [turn_N]
    unfold volume_counts_b2
    simp only [seqS_ap, contS_nx, contS_rt, contS_bk, contS_ct, nilS_ap, killS_ap, setS_ap, setC_so, dropS_ap, dropC_so, retS_ap, retC_so, retN_ap, bkS_ap, ctS_ap, ifS_ap, ifC_t, ifC_f, forS_ap, forC_so, asgS_ap, asgC_so, seqF_nil, seqF_cons, seqC_so, seqC2_so, odK_f, odK_al, odE_f, odE_al, opF_ap, opC_so, opC2_so, cF_ap, rd_ap, rdC_non, rdC_bl, rdC_int, rdC_str, rdC_tup, rdC_lst, rdC_dct, callF_ap, callC_so, callC2_so, wb_nil, wb_e, wb_k, tstF_ap, tstC_so, notF_ap, notC_so, andF_ap, andC_t, andC_f, orF_ap, orC_t, orC_f, ifF_ap, ifFC_t, ifFC_f, blF_ap, blC_so, andV_ap, andVC_t, andVC_f, orV_ap, orVC_t, orVC_f, notV_ap, notVC_so, truO_ap, truC_bl, truC_int, truC_lst, truC_tup, truC_non, fnF_ap, fnC_rt, fnC_nx, par2_ap, parC_so, parC2_so, par3_ap, par3C_so, par3C2_so, par3C3_so, tgN_ap, tgT2_ap, tgT3_ap, appF_ap, appC0_so, stS_ap, stC_so, stC1_so, yesF_ap, List.set_cons_zero, List.set_cons_succ, List.getElem?_cons_zero, List.getElem?_cons_succ, Option.map_some, Bool.not_true, Bool.not_false, Bool.false_eq_true, if_true, if_false, reduceCtorEq, ltD_int, leD_int, gtD_int, geD_int, max2D_int, negD_int, intD_int, intD_bl, eqD_int, neD_int, eqD_bl, neD_bl, lenD_lst, lenD_tup, listD_lst, listD_tup, tupleD_lst, tupleD_tup, lstD_0, lstD_1, lstD_2, lstD_3, tupD_0, tupD_1, tupD_2, tupD_3, slRD_lst, slRD_tup, rngy, l1 x _ p q y1 hq]) (List.range' 1 a) [1] r h1
  have m2 := loop_opt (e := eN) (m := tgN 4) (s := volume_counts_b4) (fun p : List Int => [eN a, eN b, eN c, dI p, .und, .und]) (fun r x => (List.range' 1 b).foldlM (fun r y => blO r (x + y - 1)) r) (fun p x q hq => by
    rw [turn_N]
    unfold volume_counts_b4
    simp only [seqS_ap, contS_nx, contS_rt, contS_bk, contS_ct, nilS_ap, killS_ap, setS_ap, setC_so, dropS_ap, dropC_so, retS_ap, retC_so, retN_ap, bkS_ap, ctS_ap, ifS_ap, ifC_t, ifC_f, forS_ap, forC_so, asgS_ap, asgC_so, seqF_nil, seqF_cons, seqC_so, seqC2_so, odK_f, odK_al, odE_f, odE_al, opF_ap, opC_so, opC2_so, cF_ap, rd_ap, rdC_non, rdC_bl, rdC_int, rdC_str, rdC_tup, rdC_lst, rdC_dct, callF_ap, callC_so, callC2_so, wb_nil, wb_e, wb_k, tstF_ap, tstC_so, notF_ap, notC_so, andF_ap, andC_t, andC_f, orF_ap, orC_t, orC_f, ifF_ap, ifFC_t, ifFC_f, blF_ap, blC_so, andV_ap, andVC_t, andVC_f, orV_ap, orVC_t, orVC_f, notV_ap, notVC_so, truO_ap, truC_bl, truC_int, truC_lst, truC_tup, truC_non, fnF_ap, fnC_rt, fnC_nx, par2_ap, parC_so, parC2_so, par3_ap, par3C_so, par3C2_so, par3C3_so, tgN_ap, tgT2_ap, tgT3_ap, appF_ap, appC0_so, stS_ap, stC_so, stC1_so, yesF_ap, List.set_cons_zero, List.set_cons_succ, List.getElem?_cons_zero, List.getElem?_cons_succ, Option.map_some, Bool.not_true, Bool.not_false, Bool.false_eq_true, if_true, if_false, reduceCtorEq, ltD_int, leD_int, gtD_int, geD_int, max2D_int, negD_int, intD_int, intD_bl, eqD_int, neD_int, eqD_bl, neD_bl, lenD_lst, lenD_tup, listD_lst, listD_tup, tupleD_lst, tupleD_tup, lstD_0, lstD_1, lstD_2, lstD_3, tupD_0, tupD_1, tupD_2, tupD_3, slRD_lst, slRD_tup, rngy, l2 x _ p q y1 hq]) (List.range' 1 a) r v h2
  have i1 : lstD [.int 1] = some (dI [1]) := rfl
  refine fn_of (ρ0 := [eN a, eN b, eN c, .und, .und, .und]) (r := [eN a, eN b, eN c, dI v, .und, .und]) rfl ?_
  unfold S_volume_counts
  simp only [seqS_ap, contS_nx, contS_rt, contS_bk, contS_ct, nilS_ap, killS_ap, setS_ap, setC_so, dropS_ap, dropC_so, retS_ap, retC_so, retN_ap, bkS_ap, ctS_ap, ifS_ap, ifC_t, ifC_f, forS_ap, forC_so, asgS_ap, asgC_so, seqF_nil, seqF_cons, seqC_so, seqC2_so, odK_f, odK_al, odE_f, odE_al, opF_ap, opC_so, opC2_so, cF_ap, rd_ap, rdC_non, rdC_bl, rdC_int, rdC_str, rdC_tup, rdC_lst, rdC_dct, callF_ap, callC_so, callC2_so, wb_nil, wb_e, wb_k, tstF_ap, tstC_so, notF_ap, notC_so, andF_ap, andC_t, andC_f, orF_ap, orC_t, orC_f, ifF_ap, ifFC_t, ifFC_f, blF_ap, blC_so, andV_ap, andVC_t, andVC_f, orV_ap, orVC_t, orVC_f, notV_ap, notVC_so, truO_ap, truC_bl, truC_int, truC_lst, truC_tup, truC_non, fnF_ap, fnC_rt, fnC_nx, par2_ap, parC_so, parC2_so, par3_ap, par3C_so, par3C2_so, par3C3_so, tgN_ap, tgT2_ap, tgT3_ap, appF_ap, appC0_so, stS_ap, stC_so, stC1_so, yesF_ap, List.set_cons_zero, List.set_cons_succ, List.getElem?_cons_zero, List.getElem?_cons_succ, Option.map_some, Bool.not_true, Bool.not_false, Bool.false_eq_true, if_true, if_false, reduceCtorEq, addD_int, subD_int, ltD_int, leD_int, gtD_int, geD_int, min2D_int, max2D_int, negD_int, intD_int, intD_bl, eqD_int, neD_int, eqD_bl, neD_bl, lenD_lst, lenD_tup, listD_lst, listD_tup, tupleD_lst, tupleD_tup, lstD_0, lstD_2, lstD_3, tupD_0, tupD_1, tupD_2, tupD_3, slRD_lst, slRD_tup, i1, rngx, m1, m2, dI_rd]
/-! ### the checks -/
def anyL : List Int := [1, 1, 3, 6, 13, 24, 48, 86, 160, 282, 500, 859, 1479, 2485, 4167, 6879, 11297, 18334, 29601, 47330, 75278, 118794, 186475, 290783, 451194, 696033, 1068745, 1632658, 2483234, 3759612, 5668963]
theorem any_ok : F_ulaw_any [.int 30] = some (dI anyL, [.int 30]) := by kernel_rfl
def ac_0 : List Int := [1, 0, 0, 0, 0, 0, 0, 0, 0, 0, 0, 0, 0, 0, 0, 0, 0, 0, 0, 0, 0, 0, 0, 0, 0, 0, 0, 0, 0, 0, 0]
def ac_1 : List Int := [1, 1, 1, 1, 1, 1, 1, 1, 1, 1, 1, 1, 1, 1, 1, 1, 1, 1, 1, 1, 1, 1, 1, 1, 1, 1, 1, 1, 1, 1, 1]
theorem as_1 : turn (tgN 2) all_counts_b3 (eN 1) [eN 30, dI ac_0, .und, .und, .und] = some (.nx [eN 30, dI ac_1, .und, .und, .und]) := by kernel_rfl
def ac_2 : List Int := [1, 1, 3, 3, 6, 6, 10, 10, 15, 15, 21, 21, 28, 28, 36, 36, 45, 45, 55, 55, 66, 66, 78, 78, 91, 91, 105, 105, 120, 120, 136]
theorem as_2 : turn (tgN 2) all_counts_b3 (eN 2) [eN 30, dI ac_1, .und, .und, .und] = some (.nx [eN 30, dI ac_2, .und, .und, .und]) := by kernel_rfl
def ac_3 : List Int := [1, 1, 3, 6, 9, 15, 25, 34, 51, 73, 97, 132, 178, 226, 294, 376, 466, 582, 722, 872, 1062, 1282, 1522, 1812, 2147, 2507, 2937, 3422, 3947, 4557, 5243]
theorem as_3 : turn (tgN 2) all_counts_b3 (eN 3) [eN 30, dI ac_2, .und, .und, .und] = some (.nx [eN 30, dI ac_3, .und, .und, .und]) := by kernel_rfl
def ac_4 : List Int := [1, 1, 3, 6, 13, 19, 37, 58, 97, 143, 227, 328, 492, 688, 992, 1364, 1903, 2551, 3473, 4586, 6097, 7911, 10333, 13226, 16988, 21454, 27172, 33938, 42437, 52423, 64833]
theorem as_4 : turn (tgN 2) all_counts_b3 (eN 4) [eN 30, dI ac_3, .und, .und, .und] = some (.nx [eN 30, dI ac_4, .und, .und, .und]) := by kernel_rfl
def ac_5 : List Int := [1, 1, 3, 6, 13, 24, 42, 73, 127, 208, 337, 528, 827, 1263, 1902, 2819, 4133, 5986, 8578, 12146, 17057, 23711, 32708, 44726, 60713, 81800, 109468, 145526, 192288, 252521, 329792]
theorem as_5 : turn (tgN 2) all_counts_b3 (eN 5) [eN 30, dI ac_4, .und, .und, .und] = some (.nx [eN 30, dI ac_5, .und, .und, .und]) := by kernel_rfl
def ac_6 : List Int := [1, 1, 3, 6, 13, 24, 48, 79, 145, 244, 415, 672, 1100, 1722, 2727, 4193, 6428, 9658, 14478, 21313, 31304, 45329, 65311, 93074, 132026, 185413, 259242, 359395, 495839, 679175, 926064]
theorem as_6 : turn (tgN 2) all_counts_b3 (eN 6) [eN 30, dI ac_5, .und, .und, .und] = some (.nx [eN 30, dI ac_6, .und, .und, .und]) := by kernel_rfl
def ac_7 : List Int := [1, 1, 3, 6, 13, 24, 48, 86, 152, 265, 457, 763, 1268, 2058, 3308, 5236, 8220, 12731, 19546, 29685, 44702, 66714, 98806, 145154, 211756, 306667, 441249, 630771, 896344, 1266146, 1778692]
theorem as_7 : turn (tgN 2) all_counts_b3 (eN 7) [eN 30, dI ac_6, .und, .und, .und] = some (.nx [eN 30, dI ac_7, .und, .und, .und]) := by kernel_rfl
def ac_8 : List Int := [1, 1, 3, 6, 13, 24, 48, 86, 160, 273, 481, 811, 1372, 2250, 3692, 5924, 9472, 14887, 23310, 36005, 55314, 84042, 126998, 190138, 283108, 418175, 614429, 896439, 1301168, 1876826, 2693988]
theorem as_8 : turn (tgN 2) all_counts_b3 (eN 8) [eN 30, dI ac_7, .und, .und, .und] = some (.nx [eN 30, dI ac_8, .und, .und, .und]) := by kernel_rfl
def ac_9 : List Int := [1, 1, 3, 6, 13, 24, 48, 86, 160, 282, 490, 838, 1426, 2367, 3908, 6356, 10246, 16327, 25812, 40379, 62748, 96660, 147833, 224446, 338584, 507293, 755612, 1118679, 1647023, 2411642, 3513096]
theorem as_9 : turn (tgN 2) all_counts_b3 (eN 9) [eN 30, dI ac_8, .und, .und, .und] = some (.nx [eN 30, dI ac_9, .und, .und, .und]) := by kernel_rfl
def ac_10 : List Int := [1, 1, 3, 6, 13, 24, 48, 86, 160, 282, 500, 848, 1456, 2427, 4038, 6596, 10726, 17187, 27412, 43199, 67703, 105095, 162258, 248446, 378379, 572173, 860712, 1286679, 1913943, 2830942, 4167746]
theorem as_10 : turn (tgN 2) all_counts_b3 (eN 10) [eN 30, dI ac_9, .und, .und, .und] = some (.nx [eN 30, dI ac_10, .und, .und, .und]) := by kernel_rfl
def ac_11 : List Int := [1, 1, 3, 6, 13, 24, 48, 86, 160, 282, 500, 859, 1467, 2460, 4104, 6739, 10990, 17715, 28358, 44959, 70805, 110595, 171652, 264528, 405274, 616987, 934126, 1406249, 2106168, 3138150, 4653495]
theorem as_11 : turn (tgN 2) all_counts_b3 (eN 11) [eN 30, dI ac_10, .und, .und, .und] = some (.nx [eN 30, dI ac_11, .und, .und, .und]) := by kernel_rfl
def ac_12 : List Int := [1, 1, 3, 6, 13, 24, 48, 86, 160, 282, 500, 859, 1479, 2472, 4140, 6811, 11146, 18003, 28934, 45991, 72725, 113979, 177652, 274836, 422956, 646585, 983608, 1487585, 2239062, 3352602, 4997535]
theorem as_12 : turn (tgN 2) all_counts_b3 (eN 12) [eN 30, dI ac_11, .und, .und, .und] = some (.nx [eN 30, dI ac_12, .und, .und, .und]) := by kernel_rfl
def ac_13 : List Int := [1, 1, 3, 6, 13, 24, 48, 86, 160, 282, 500, 859, 1479, 2485, 4153, 6850, 11224, 18172, 29246, 46615, 73843, 116059, 181318, 281336, 434123, 665812, 1015835, 1541496, 2327878, 3498046, 5232757]
theorem as_13 : turn (tgN 2) all_counts_b3 (eN 13) [eN 30, dI ac_12, .und, .und, .und] = some (.nx [eN 30, dI ac_13, .und, .und, .und]) := by kernel_rfl
def ac_14 : List Int := [1, 1, 3, 6, 13, 24, 48, 86, 160, 282, 500, 859, 1479, 2485, 4167, 6864, 11266, 18256, 29428, 46951, 74515, 117263, 183558, 285284, 441123, 677838, 1036541, 1576286, 2386125, 3594051, 5390208]
theorem as_14 : turn (tgN 2) all_counts_b3 (eN 14) [eN 30, dI ac_13, .und, .und, .und] = some (.nx [eN 30, dI ac_14, .und, .und, .und]) := by kernel_rfl
def ac_15 : List Int := [1, 1, 3, 6, 13, 24, 48, 86, 160, 282, 500, 859, 1479, 2485, 4167, 6879, 11281, 18301, 29518, 47146, 74875, 117983, 184848, 287684, 445353, 685338, 1049426, 1598471, 2423400, 3656556, 5493288]
theorem as_15 : turn (tgN 2) all_counts_b3 (eN 15) [eN 30, dI ac_14, .und, .und, .und] = some (.nx [eN 30, dI ac_15, .und, .und, .und]) := by kernel_rfl
def ac_16 : List Int := [1, 1, 3, 6, 13, 24, 48, 86, 160, 282, 500, 859, 1479, 2485, 4167, 6879, 11297, 18317, 29566, 47242, 75083, 118367, 185616, 289060, 447913, 689850, 1057426, 1612215, 2447064, 3696316, 5559960]
theorem as_16 : turn (tgN 2) all_counts_b3 (eN 16) [eN 30, dI ac_15, .und, .und, .und] = some (.nx [eN 30, dI ac_16, .und, .und, .und]) := by kernel_rfl
def ac_17 : List Int := [1, 1, 3, 6, 13, 24, 48, 86, 160, 282, 500, 859, 1479, 2485, 4167, 6879, 11297, 18334, 29583, 47293, 75185, 118588, 186024, 289876, 449375, 692570, 1062220, 1620715, 2461667, 3721459, 5602205]
theorem as_17 : turn (tgN 2) all_counts_b3 (eN 17) [eN 30, dI ac_16, .und, .und, .und] = some (.nx [eN 30, dI ac_17, .und, .und, .und]) := by kernel_rfl
def ac_18 : List Int := [1, 1, 3, 6, 13, 24, 48, 86, 160, 282, 500, 859, 1479, 2485, 4167, 6879, 11297, 18334, 29601, 47311, 75239, 118696, 186258, 290308, 450239, 694118, 1065100, 1625791, 2470667, 3736921, 5628827]
theorem as_18 : turn (tgN 2) all_counts_b3 (eN 18) [eN 30, dI ac_17, .und, .und, .und] = some (.nx [eN 30, dI ac_18, .und, .und, .und]) := by kernel_rfl
def ac_19 : List Int := [1, 1, 3, 6, 13, 24, 48, 86, 160, 282, 500, 859, 1479, 2485, 4167, 6879, 11297, 18334, 29601, 47330, 75258, 118753, 186372, 290555, 450695, 695030, 1066734, 1628831, 2476025, 3746421, 5645148]
theorem as_19 : turn (tgN 2) all_counts_b3 (eN 19) [eN 30, dI ac_18, .und, .und, .und] = some (.nx [eN 30, dI ac_19, .und, .und, .und]) := by kernel_rfl
def ac_20 : List Int := [1, 1, 3, 6, 13, 24, 48, 86, 160, 282, 500, 859, 1479, 2485, 4167, 6879, 11297, 18334, 29601, 47330, 75278, 118773, 186432, 290675, 450955, 695510, 1067694, 1630551, 2479225, 3752061, 5655148]
theorem as_20 : turn (tgN 2) all_counts_b3 (eN 20) [eN 30, dI ac_19, .und, .und, .und] = some (.nx [eN 30, dI ac_20, .und, .und, .und]) := by kernel_rfl
def ac_21 : List Int := [1, 1, 3, 6, 13, 24, 48, 86, 160, 282, 500, 859, 1479, 2485, 4167, 6879, 11297, 18334, 29601, 47330, 75278, 118794, 186453, 290738, 451081, 695783, 1068198, 1631559, 2481031, 3755421, 5661070]
theorem as_21 : turn (tgN 2) all_counts_b3 (eN 21) [eN 30, dI ac_20, .und, .und, .und] = some (.nx [eN 30, dI ac_21, .und, .und, .und]) := by kernel_rfl
def ac_22 : List Int := [1, 1, 3, 6, 13, 24, 48, 86, 160, 282, 500, 859, 1479, 2485, 4167, 6879, 11297, 18334, 29601, 47330, 75278, 118794, 186475, 290760, 451147, 695915, 1068484, 1632087, 2482087, 3757313, 5664590]
theorem as_22 : turn (tgN 2) all_counts_b3 (eN 22) [eN 30, dI ac_21, .und, .und, .und] = some (.nx [eN 30, dI ac_22, .und, .und, .und]) := by kernel_rfl
def ac_23 : List Int := [1, 1, 3, 6, 13, 24, 48, 86, 160, 282, 500, 859, 1479, 2485, 4167, 6879, 11297, 18334, 29601, 47330, 75278, 118794, 186475, 290783, 451170, 695984, 1068622, 1632386, 2482639, 3758417, 5666568]
theorem as_23 : turn (tgN 2) all_counts_b3 (eN 23) [eN 30, dI ac_22, .und, .und, .und] = some (.nx [eN 30, dI ac_23, .und, .und, .und]) := by kernel_rfl
def ac_24 : List Int := [1, 1, 3, 6, 13, 24, 48, 86, 160, 282, 500, 859, 1479, 2485, 4167, 6879, 11297, 18334, 29601, 47330, 75278, 118794, 186475, 290783, 451194, 696008, 1068694, 1632530, 2482951, 3758993, 5667720]
theorem as_24 : turn (tgN 2) all_counts_b3 (eN 24) [eN 30, dI ac_23, .und, .und, .und] = some (.nx [eN 30, dI ac_24, .und, .und, .und]) := by kernel_rfl
def ac_25 : List Int := [1, 1, 3, 6, 13, 24, 48, 86, 160, 282, 500, 859, 1479, 2485, 4167, 6879, 11297, 18334, 29601, 47330, 75278, 118794, 186475, 290783, 451194, 696033, 1068719, 1632605, 2483101, 3759318, 5668320]
theorem as_25 : turn (tgN 2) all_counts_b3 (eN 25) [eN 30, dI ac_24, .und, .und, .und] = some (.nx [eN 30, dI ac_25, .und, .und, .und]) := by kernel_rfl
def ac_26 : List Int := [1, 1, 3, 6, 13, 24, 48, 86, 160, 282, 500, 859, 1479, 2485, 4167, 6879, 11297, 18334, 29601, 47330, 75278, 118794, 186475, 290783, 451194, 696033, 1068745, 1632631, 2483179, 3759474, 5668658]
theorem as_26 : turn (tgN 2) all_counts_b3 (eN 26) [eN 30, dI ac_25, .und, .und, .und] = some (.nx [eN 30, dI ac_26, .und, .und, .und]) := by kernel_rfl
def ac_27 : List Int := [1, 1, 3, 6, 13, 24, 48, 86, 160, 282, 500, 859, 1479, 2485, 4167, 6879, 11297, 18334, 29601, 47330, 75278, 118794, 186475, 290783, 451194, 696033, 1068745, 1632658, 2483206, 3759555, 5668820]
theorem as_27 : turn (tgN 2) all_counts_b3 (eN 27) [eN 30, dI ac_26, .und, .und, .und] = some (.nx [eN 30, dI ac_27, .und, .und, .und]) := by kernel_rfl
def ac_28 : List Int := [1, 1, 3, 6, 13, 24, 48, 86, 160, 282, 500, 859, 1479, 2485, 4167, 6879, 11297, 18334, 29601, 47330, 75278, 118794, 186475, 290783, 451194, 696033, 1068745, 1632658, 2483234, 3759583, 5668904]
theorem as_28 : turn (tgN 2) all_counts_b3 (eN 28) [eN 30, dI ac_27, .und, .und, .und] = some (.nx [eN 30, dI ac_28, .und, .und, .und]) := by kernel_rfl
def ac_29 : List Int := [1, 1, 3, 6, 13, 24, 48, 86, 160, 282, 500, 859, 1479, 2485, 4167, 6879, 11297, 18334, 29601, 47330, 75278, 118794, 186475, 290783, 451194, 696033, 1068745, 1632658, 2483234, 3759612, 5668933]
theorem as_29 : turn (tgN 2) all_counts_b3 (eN 29) [eN 30, dI ac_28, .und, .und, .und] = some (.nx [eN 30, dI ac_29, .und, .und, .und]) := by kernel_rfl
def ac_30 : List Int := [1, 1, 3, 6, 13, 24, 48, 86, 160, 282, 500, 859, 1479, 2485, 4167, 6879, 11297, 18334, 29601, 47330, 75278, 118794, 186475, 290783, 451194, 696033, 1068745, 1632658, 2483234, 3759612, 5668963]
theorem as_30 : turn (tgN 2) all_counts_b3 (eN 30) [eN 30, dI ac_29, .und, .und, .und] = some (.nx [eN 30, dI ac_30, .und, .und, .und]) := by kernel_rfl
theorem all_ok : F_all_counts [.int 30] = some (dI anyL, [.int 30]) := by
  have lp : loopS (tgN 2) all_counts_b3 [eN 1, eN 2, eN 3, eN 4, eN 5, eN 6, eN 7, eN 8, eN 9, eN 10, eN 11, eN 12, eN 13, eN 14, eN 15, eN 16, eN 17, eN 18, eN 19, eN 20, eN 21, eN 22, eN 23, eN 24, eN 25, eN 26, eN 27, eN 28, eN 29, eN 30] [eN 30, dI ac_0, .und, .und, .und] = some (.nx [eN 30, dI ac_30, .und, .und, .und]) := by
    rw [loopS_cons, as_1, loopC_nx, loopS_cons, as_2, loopC_nx, loopS_cons, as_3, loopC_nx, loopS_cons, as_4, loopC_nx, loopS_cons, as_5, loopC_nx, loopS_cons, as_6, loopC_nx, loopS_cons, as_7, loopC_nx, loopS_cons, as_8, loopC_nx, loopS_cons, as_9, loopC_nx, loopS_cons, as_10, loopC_nx, loopS_cons, as_11, loopC_nx, loopS_cons, as_12, loopC_nx, loopS_cons, as_13, loopC_nx, loopS_cons, as_14, loopC_nx, loopS_cons, as_15, loopC_nx, loopS_cons, as_16, loopC_nx, loopS_cons, as_17, loopC_nx, loopS_cons, as_18, loopC_nx, loopS_cons, as_19, loopC_nx, loopS_cons, as_20, loopC_nx, loopS_cons, as_21, loopC_nx, loopS_cons, as_22, loopC_nx, loopS_cons, as_23, loopC_nx, loopS_cons, as_24, loopC_nx, loopS_cons, as_25, loopC_nx, loopS_cons, as_26, loopC_nx, loopS_cons, as_27, loopC_nx, loopS_cons, as_28, loopC_nx, loopS_cons, as_29, loopC_nx, loopS_cons, as_30, loopC_nx, loopS_nil]
  have src : rng2 [odE [] 0 (cF (.int 1)), odE [] 1 (opF addD [odK 0 0, odE [] 0 (cF (.int 1))])] [eN 30, dI ac_0, .und, .und, .und] = some ([eN 1, eN 2, eN 3, eN 4, eN 5, eN 6, eN 7, eN 8, eN 9, eN 10, eN 11, eN 12, eN 13, eN 14, eN 15, eN 16, eN 17, eN 18, eN 19, eN 20, eN 21, eN 22, eN 23, eN 24, eN 25, eN 26, eN 27, eN 28, eN 29, eN 30], [eN 30, dI ac_0, .und, .und, .und]) := rng2_of (a := 1) (b := 31) (by rfl) (by omega) (by omega)
  have ini : setS 1 (opF addD [odE [] 1 (opF lstD [odE [] 0 (cF (.int 1))]), odE [] 1 (opF mulLD [odE [] 1 (opF lstD [odE [] 0 (cF (.int 0))]), odK 0 0])]) [eN 30, .und, .und, .und, .und] = some (.nx [eN 30, dI ac_0, .und, .und, .und]) := by kernel_rfl
  refine fn_of (ρ0 := [eN 30, .und, .und, .und, .und]) (r := [eN 30, dI ac_30, .und, .und, .und]) rfl ?_
  unfold S_all_counts
  rw [seqS_ap, ini, contS_nx, seqS_ap, forS_ap, src, forC_so, lp, contS_nx]
  rfl
def p_1_1_1 : List Int := [1, 1]
theorem v_1_1_1 : vcO 1 1 1 = some p_1_1_1 := by decide +kernel
def p_1_1_2 : List Int := [1, 1, 1]
theorem v_1_1_2 : vcO 1 1 2 = some p_1_1_2 := by decide +kernel
def p_1_1_3 : List Int := [1, 1, 1, 1]
theorem v_1_1_3 : vcO 1 1 3 = some p_1_1_3 := by decide +kernel
def p_1_1_4 : List Int := [1, 1, 1, 1, 1]
theorem v_1_1_4 : vcO 1 1 4 = some p_1_1_4 := by decide +kernel
def p_1_1_5 : List Int := [1, 1, 1, 1, 1, 1]
theorem v_1_1_5 : vcO 1 1 5 = some p_1_1_5 := by decide +kernel
def p_1_2_1 : List Int := [1, 1, 1]
theorem v_1_2_1 : vcO 1 2 1 = some p_1_2_1 := by decide +kernel
def p_1_2_2 : List Int := [1, 1, 2, 1, 1]
theorem v_1_2_2 : vcO 1 2 2 = some p_1_2_2 := by decide +kernel
def p_1_2_3 : List Int := [1, 1, 2, 2, 2, 1, 1]
theorem v_1_2_3 : vcO 1 2 3 = some p_1_2_3 := by decide +kernel
def p_1_2_4 : List Int := [1, 1, 2, 2, 3, 2, 2, 1, 1]
theorem v_1_2_4 : vcO 1 2 4 = some p_1_2_4 := by decide +kernel
def p_1_2_5 : List Int := [1, 1, 2, 2, 3, 3, 3, 2, 2, 1, 1]
theorem v_1_2_5 : vcO 1 2 5 = some p_1_2_5 := by decide +kernel
def p_1_3_1 : List Int := [1, 1, 1, 1]
theorem v_1_3_1 : vcO 1 3 1 = some p_1_3_1 := by decide +kernel
def p_1_3_2 : List Int := [1, 1, 2, 2, 2, 1, 1]
theorem v_1_3_2 : vcO 1 3 2 = some p_1_3_2 := by decide +kernel
def p_1_3_3 : List Int := [1, 1, 2, 3, 3, 3, 3, 2, 1, 1]
theorem v_1_3_3 : vcO 1 3 3 = some p_1_3_3 := by decide +kernel
def p_1_3_4 : List Int := [1, 1, 2, 3, 4, 4, 5, 4, 4, 3, 2, 1, 1]
theorem v_1_3_4 : vcO 1 3 4 = some p_1_3_4 := by decide +kernel
def p_1_3_5 : List Int := [1, 1, 2, 3, 4, 5, 6, 6, 6, 6, 5, 4, 3, 2, 1, 1]
theorem v_1_3_5 : vcO 1 3 5 = some p_1_3_5 := by decide +kernel
def p_1_4_1 : List Int := [1, 1, 1, 1, 1]
theorem v_1_4_1 : vcO 1 4 1 = some p_1_4_1 := by decide +kernel
def p_1_4_2 : List Int := [1, 1, 2, 2, 3, 2, 2, 1, 1]
theorem v_1_4_2 : vcO 1 4 2 = some p_1_4_2 := by decide +kernel
def p_1_4_3 : List Int := [1, 1, 2, 3, 4, 4, 5, 4, 4, 3, 2, 1, 1]
theorem v_1_4_3 : vcO 1 4 3 = some p_1_4_3 := by decide +kernel
def p_1_4_4 : List Int := [1, 1, 2, 3, 5, 5, 7, 7, 8, 7, 7, 5, 5, 3, 2, 1, 1]
theorem v_1_4_4 : vcO 1 4 4 = some p_1_4_4 := by decide +kernel
def p_1_4_5 : List Int := [1, 1, 2, 3, 5, 6, 8, 9, 11, 11, 12, 11, 11, 9, 8, 6, 5, 3, 2, 1, 1]
theorem v_1_4_5 : vcO 1 4 5 = some p_1_4_5 := by decide +kernel
def p_2_1_1 : List Int := [1, 1, 1]
theorem v_2_1_1 : vcO 2 1 1 = some p_2_1_1 := by decide +kernel
def p_2_1_2 : List Int := [1, 1, 2, 1, 1]
theorem v_2_1_2 : vcO 2 1 2 = some p_2_1_2 := by decide +kernel
def p_2_1_3 : List Int := [1, 1, 2, 2, 2, 1, 1]
theorem v_2_1_3 : vcO 2 1 3 = some p_2_1_3 := by decide +kernel
def p_2_1_4 : List Int := [1, 1, 2, 2, 3, 2, 2, 1, 1]
theorem v_2_1_4 : vcO 2 1 4 = some p_2_1_4 := by decide +kernel
def p_2_1_5 : List Int := [1, 1, 2, 2, 3, 3, 3, 2, 2, 1, 1]
theorem v_2_1_5 : vcO 2 1 5 = some p_2_1_5 := by decide +kernel
def p_2_2_1 : List Int := [1, 1, 2, 1, 1]
theorem v_2_2_1 : vcO 2 2 1 = some p_2_2_1 := by decide +kernel
def p_2_2_2 : List Int := [1, 1, 3, 3, 4, 3, 3, 1, 1]
theorem v_2_2_2 : vcO 2 2 2 = some p_2_2_2 := by decide +kernel
def p_2_2_3 : List Int := [1, 1, 3, 4, 6, 6, 8, 6, 6, 4, 3, 1, 1]
theorem v_2_2_3 : vcO 2 2 3 = some p_2_2_3 := by decide +kernel
def p_2_2_4 : List Int := [1, 1, 3, 4, 7, 8, 11, 11, 13, 11, 11, 8, 7, 4, 3, 1, 1]
theorem v_2_2_4 : vcO 2 2 4 = some p_2_2_4 := by decide +kernel
def p_2_2_5 : List Int := [1, 1, 3, 4, 7, 9, 13, 14, 18, 18, 20, 18, 18, 14, 13, 9, 7, 4, 3, 1, 1]
theorem v_2_2_5 : vcO 2 2 5 = some p_2_2_5 := by decide +kernel
def p_2_3_1 : List Int := [1, 1, 2, 2, 2, 1, 1]
theorem v_2_3_1 : vcO 2 3 1 = some p_2_3_1 := by decide +kernel
def p_2_3_2 : List Int := [1, 1, 3, 4, 6, 6, 8, 6, 6, 4, 3, 1, 1]
theorem v_2_3_2 : vcO 2 3 2 = some p_2_3_2 := by decide +kernel
def p_2_3_3 : List Int := [1, 1, 3, 5, 8, 10, 15, 16, 19, 19, 19, 16, 15, 10, 8, 5, 3, 1, 1]
theorem v_2_3_3 : vcO 2 3 3 = some p_2_3_3 := by decide +kernel
def p_2_3_4 : List Int := [1, 1, 3, 5, 9, 12, 19, 23, 31, 35, 41, 42, 46, 42, 41, 35, 31, 23, 19, 12, 9, 5, 3, 1, 1]
theorem v_2_3_4 : vcO 2 3 4 = some p_2_3_4 := by decide +kernel
def p_2_3_5 : List Int := [1, 1, 3, 5, 9, 13, 21, 27, 38, 47, 59, 67, 79, 83, 90, 90, 90, 83, 79, 67, 59, 47, 38, 27, 21, 13, 9, 5, 3, 1, 1]
theorem v_2_3_5 : vcO 2 3 5 = some p_2_3_5 := by decide +kernel
def p_2_4_1 : List Int := [1, 1, 2, 2, 3, 2, 2, 1, 1]
theorem v_2_4_1 : vcO 2 4 1 = some p_2_4_1 := by decide +kernel
def p_2_4_2 : List Int := [1, 1, 3, 4, 7, 8, 11, 11, 13, 11, 11, 8, 7, 4, 3, 1, 1]
theorem v_2_4_2 : vcO 2 4 2 = some p_2_4_2 := by decide +kernel
def p_2_4_3 : List Int := [1, 1, 3, 5, 9, 12, 19, 23, 31, 35, 41, 42, 46, 42, 41, 35, 31, 23, 19, 12, 9, 5, 3, 1, 1]
theorem v_2_4_3 : vcO 2 4 3 = some p_2_4_3 := by decide +kernel
def p_2_4_4 : List Int := [1, 1, 3, 5, 10, 14, 23, 31, 45, 56, 73, 85, 103, 112, 125, 128, 134, 128, 125, 112, 103, 85, 73, 56, 45, 31, 23, 14, 10, 5, 3, 1, 1]
theorem v_2_4_4 : vcO 2 4 4 = some p_2_4_4 := by decide +kernel
def p_2_4_5 : List Int := [1, 1, 3, 5, 10, 15, 25, 35, 53, 70, 96, 120, 154, 182, 219, 247, 281, 301, 325, 332, 342, 332, 325, 301, 281, 247, 219, 182, 154, 120, 96, 70, 53, 35, 25, 15, 10, 5, 3, 1, 1]
theorem v_2_4_5 : vcO 2 4 5 = some p_2_4_5 := by decide +kernel
def p_3_1_1 : List Int := [1, 1, 1, 1]
theorem v_3_1_1 : vcO 3 1 1 = some p_3_1_1 := by decide +kernel
def p_3_1_2 : List Int := [1, 1, 2, 2, 2, 1, 1]
theorem v_3_1_2 : vcO 3 1 2 = some p_3_1_2 := by decide +kernel
def p_3_1_3 : List Int := [1, 1, 2, 3, 3, 3, 3, 2, 1, 1]
theorem v_3_1_3 : vcO 3 1 3 = some p_3_1_3 := by decide +kernel
def p_3_1_4 : List Int := [1, 1, 2, 3, 4, 4, 5, 4, 4, 3, 2, 1, 1]
theorem v_3_1_4 : vcO 3 1 4 = some p_3_1_4 := by decide +kernel
def p_3_1_5 : List Int := [1, 1, 2, 3, 4, 5, 6, 6, 6, 6, 5, 4, 3, 2, 1, 1]
theorem v_3_1_5 : vcO 3 1 5 = some p_3_1_5 := by decide +kernel
def p_3_2_1 : List Int := [1, 1, 2, 2, 2, 1, 1]
theorem v_3_2_1 : vcO 3 2 1 = some p_3_2_1 := by decide +kernel
def p_3_2_2 : List Int := [1, 1, 3, 4, 6, 6, 8, 6, 6, 4, 3, 1, 1]
theorem v_3_2_2 : vcO 3 2 2 = some p_3_2_2 := by decide +kernel
def p_3_2_3 : List Int := [1, 1, 3, 5, 8, 10, 15, 16, 19, 19, 19, 16, 15, 10, 8, 5, 3, 1, 1]
theorem v_3_2_3 : vcO 3 2 3 = some p_3_2_3 := by decide +kernel
def p_3_2_4 : List Int := [1, 1, 3, 5, 9, 12, 19, 23, 31, 35, 41, 42, 46, 42, 41, 35, 31, 23, 19, 12, 9, 5, 3, 1, 1]
theorem v_3_2_4 : vcO 3 2 4 = some p_3_2_4 := by decide +kernel
def p_3_2_5 : List Int := [1, 1, 3, 5, 9, 13, 21, 27, 38, 47, 59, 67, 79, 83, 90, 90, 90, 83, 79, 67, 59, 47, 38, 27, 21, 13, 9, 5, 3, 1, 1]
theorem v_3_2_5 : vcO 3 2 5 = some p_3_2_5 := by decide +kernel
def p_3_3_1 : List Int := [1, 1, 2, 3, 3, 3, 3, 2, 1, 1]
theorem v_3_3_1 : vcO 3 3 1 = some p_3_3_1 := by decide +kernel
def p_3_3_2 : List Int := [1, 1, 3, 5, 8, 10, 15, 16, 19, 19, 19, 16, 15, 10, 8, 5, 3, 1, 1]
theorem v_3_3_2 : vcO 3 3 2 = some p_3_3_2 := by decide +kernel
def p_3_3_3 : List Int := [1, 1, 3, 6, 10, 15, 24, 32, 43, 54, 64, 73, 81, 83, 83, 81, 73, 64, 54, 43, 32, 24, 15, 10, 6, 3, 1, 1]
theorem v_3_3_3 : vcO 3 3 3 = some p_3_3_3 := by decide +kernel
def p_3_3_4 : List Int := [1, 1, 3, 6, 11, 17, 29, 41, 61, 82, 109, 136, 171, 198, 230, 254, 276, 285, 294, 285, 276, 254, 230, 198, 171, 136, 109, 82, 61, 41, 29, 17, 11, 6, 3, 1, 1]
theorem v_3_3_4 : vcO 3 3 4 = some p_3_3_4 := by decide +kernel
def p_3_3_5 : List Int := [1, 1, 3, 6, 11, 18, 31, 46, 70, 100, 139, 185, 244, 306, 379, 456, 534, 610, 685, 746, 798, 835, 852, 852, 835, 798, 746, 685, 610, 534, 456, 379, 306, 244, 185, 139, 100, 70, 46, 31, 18, 11, 6, 3, 1, 1]
theorem v_3_3_5 : vcO 3 3 5 = some p_3_3_5 := by decide +kernel
def p_3_4_1 : List Int := [1, 1, 2, 3, 4, 4, 5, 4, 4, 3, 2, 1, 1]
theorem v_3_4_1 : vcO 3 4 1 = some p_3_4_1 := by decide +kernel
def p_3_4_2 : List Int := [1, 1, 3, 5, 9, 12, 19, 23, 31, 35, 41, 42, 46, 42, 41, 35, 31, 23, 19, 12, 9, 5, 3, 1, 1]
theorem v_3_4_2 : vcO 3 4 2 = some p_3_4_2 := by decide +kernel
def p_3_4_3 : List Int := [1, 1, 3, 6, 11, 17, 29, 41, 61, 82, 109, 136, 171, 198, 230, 254, 276, 285, 294, 285, 276, 254, 230, 198, 171, 136, 109, 82, 61, 41, 29, 17, 11, 6, 3, 1, 1]
theorem v_3_4_3 : vcO 3 4 3 = some p_3_4_3 := by decide +kernel
def p_3_4_4 : List Int := [1, 1, 3, 6, 12, 19, 34, 51, 81, 116, 167, 225, 307, 391, 500, 611, 741, 862, 1000, 1113, 1233, 1318, 1396, 1431, 1458, 1431, 1396, 1318, 1233, 1113, 1000, 862, 741, 611, 500, 391, 307, 225, 167, 116, 81, 51, 34, 19, 12, 6, 3, 1, 1]
theorem v_3_4_4 : vcO 3 4 4 = some p_3_4_4 := by decide +kernel
def p_3_4_5 : List Int := [1, 1, 3, 6, 12, 20, 36, 56, 91, 136, 203, 287, 407, 548, 736, 955, 1225, 1525, 1883, 2259, 2686, 3116, 3574, 4010, 4454, 4837, 5199, 5477, 5704, 5823, 5884, 5823, 5704, 5477, 5199, 4837, 4454, 4010, 3574, 3116, 2686, 2259, 1883, 1525, 1225, 955, 736, 548, 407, 287, 203, 136, 91, 56, 36, 20, 12, 6, 3, 1, 1]
theorem v_3_4_5 : vcO 3 4 5 = some p_3_4_5 := by decide +kernel
def p_4_1_1 : List Int := [1, 1, 1, 1, 1]
theorem v_4_1_1 : vcO 4 1 1 = some p_4_1_1 := by decide +kernel
def p_4_1_2 : List Int := [1, 1, 2, 2, 3, 2, 2, 1, 1]
theorem v_4_1_2 : vcO 4 1 2 = some p_4_1_2 := by decide +kernel
def p_4_1_3 : List Int := [1, 1, 2, 3, 4, 4, 5, 4, 4, 3, 2, 1, 1]
theorem v_4_1_3 : vcO 4 1 3 = some p_4_1_3 := by decide +kernel
def p_4_1_4 : List Int := [1, 1, 2, 3, 5, 5, 7, 7, 8, 7, 7, 5, 5, 3, 2, 1, 1]
theorem v_4_1_4 : vcO 4 1 4 = some p_4_1_4 := by decide +kernel
def p_4_1_5 : List Int := [1, 1, 2, 3, 5, 6, 8, 9, 11, 11, 12, 11, 11, 9, 8, 6, 5, 3, 2, 1, 1]
theorem v_4_1_5 : vcO 4 1 5 = some p_4_1_5 := by decide +kernel
def p_4_2_1 : List Int := [1, 1, 2, 2, 3, 2, 2, 1, 1]
theorem v_4_2_1 : vcO 4 2 1 = some p_4_2_1 := by decide +kernel
def p_4_2_2 : List Int := [1, 1, 3, 4, 7, 8, 11, 11, 13, 11, 11, 8, 7, 4, 3, 1, 1]
theorem v_4_2_2 : vcO 4 2 2 = some p_4_2_2 := by decide +kernel
def p_4_2_3 : List Int := [1, 1, 3, 5, 9, 12, 19, 23, 31, 35, 41, 42, 46, 42, 41, 35, 31, 23, 19, 12, 9, 5, 3, 1, 1]
theorem v_4_2_3 : vcO 4 2 3 = some p_4_2_3 := by decide +kernel
def p_4_2_4 : List Int := [1, 1, 3, 5, 10, 14, 23, 31, 45, 56, 73, 85, 103, 112, 125, 128, 134, 128, 125, 112, 103, 85, 73, 56, 45, 31, 23, 14, 10, 5, 3, 1, 1]
theorem v_4_2_4 : vcO 4 2 4 = some p_4_2_4 := by decide +kernel
def p_4_2_5 : List Int := [1, 1, 3, 5, 10, 15, 25, 35, 53, 70, 96, 120, 154, 182, 219, 247, 281, 301, 325, 332, 342, 332, 325, 301, 281, 247, 219, 182, 154, 120, 96, 70, 53, 35, 25, 15, 10, 5, 3, 1, 1]
theorem v_4_2_5 : vcO 4 2 5 = some p_4_2_5 := by decide +kernel
def p_4_3_1 : List Int := [1, 1, 2, 3, 4, 4, 5, 4, 4, 3, 2, 1, 1]
theorem v_4_3_1 : vcO 4 3 1 = some p_4_3_1 := by decide +kernel
def p_4_3_2 : List Int := [1, 1, 3, 5, 9, 12, 19, 23, 31, 35, 41, 42, 46, 42, 41, 35, 31, 23, 19, 12, 9, 5, 3, 1, 1]
theorem v_4_3_2 : vcO 4 3 2 = some p_4_3_2 := by decide +kernel
def p_4_3_3 : List Int := [1, 1, 3, 6, 11, 17, 29, 41, 61, 82, 109, 136, 171, 198, 230, 254, 276, 285, 294, 285, 276, 254, 230, 198, 171, 136, 109, 82, 61, 41, 29, 17, 11, 6, 3, 1, 1]
theorem v_4_3_3 : vcO 4 3 3 = some p_4_3_3 := by decide +kernel
def p_4_3_4 : List Int := [1, 1, 3, 6, 12, 19, 34, 51, 81, 116, 167, 225, 307, 391, 500, 611, 741, 862, 1000, 1113, 1233, 1318, 1396, 1431, 1458, 1431, 1396, 1318, 1233, 1113, 1000, 862, 741, 611, 500, 391, 307, 225, 167, 116, 81, 51, 34, 19, 12, 6, 3, 1, 1]
theorem v_4_3_4 : vcO 4 3 4 = some p_4_3_4 := by decide +kernel
def p_4_3_5 : List Int := [1, 1, 3, 6, 12, 20, 36, 56, 91, 136, 203, 287, 407, 548, 736, 955, 1225, 1525, 1883, 2259, 2686, 3116, 3574, 4010, 4454, 4837, 5199, 5477, 5704, 5823, 5884, 5823, 5704, 5477, 5199, 4837, 4454, 4010, 3574, 3116, 2686, 2259, 1883, 1525, 1225, 955, 736, 548, 407, 287, 203, 136, 91, 56, 36, 20, 12, 6, 3, 1, 1]
theorem v_4_3_5 : vcO 4 3 5 = some p_4_3_5 := by decide +kernel
def p_4_4_1 : List Int := [1, 1, 2, 3, 5, 5, 7, 7, 8, 7, 7, 5, 5, 3, 2, 1, 1]
theorem v_4_4_1 : vcO 4 4 1 = some p_4_4_1 := by decide +kernel
def p_4_4_2 : List Int := [1, 1, 3, 5, 10, 14, 23, 31, 45, 56, 73, 85, 103, 112, 125, 128, 134, 128, 125, 112, 103, 85, 73, 56, 45, 31, 23, 14, 10, 5, 3, 1, 1]
theorem v_4_4_2 : vcO 4 4 2 = some p_4_4_2 := by decide +kernel
def p_4_4_3 : List Int := [1, 1, 3, 6, 12, 19, 34, 51, 81, 116, 167, 225, 307, 391, 500, 611, 741, 862, 1000, 1113, 1233, 1318, 1396, 1431, 1458, 1431, 1396, 1318, 1233, 1113, 1000, 862, 741, 611, 500, 391, 307, 225, 167, 116, 81, 51, 34, 19, 12, 6, 3, 1, 1]
theorem v_4_4_3 : vcO 4 4 3 = some p_4_4_3 := by decide +kernel
def p_4_4_4 : List Int := [1, 1, 3, 6, 13, 21, 39, 62, 103, 156, 239, 343, 498, 684, 939, 1242, 1632, 2073, 2619, 3214, 3911, 4641, 5457, 6269, 7140, 7953, 8773, 9487, 10158, 10660, 11083, 11300, 11408, 11300, 11083, 10660, 10158, 9487, 8773, 7953, 7140, 6269, 5457, 4641, 3911, 3214, 2619, 2073, 1632, 1242, 939, 684, 498, 343, 239, 156, 103, 62, 39, 21, 13, 6, 3, 1, 1]
theorem v_4_4_4 : vcO 4 4 4 = some p_4_4_4 := by decide +kernel
def p_4_4_5 : List Int := [1, 1, 3, 6, 13, 22, 41, 67, 114, 178, 281, 419, 628, 899, 1284, 1776, 2438, 3256, 4316, 5589, 7175, 9024, 11245, 13761, 16684, 19891, 23491, 27321, 31476, 35737, 40199, 44595, 49015, 53158, 57121, 60591, 63684, 66088, 67959, 69013, 69448, 69013, 67959, 66088, 63684, 60591, 57121, 53158, 49015, 44595, 40199, 35737, 31476, 27321, 23491, 19891, 16684, 13761, 11245, 9024, 7175, 5589, 4316, 3256, 2438, 1776, 1284, 899, 628, 419, 281, 178, 114, 67, 41, 22, 13, 6, 3, 1, 1]
theorem v_4_4_5 : vcO 4 4 5 = some p_4_4_5 := by decide +kernel
def p_5_1_1 : List Int := [1, 1, 1, 1, 1, 1]
theorem v_5_1_1 : vcO 5 1 1 = some p_5_1_1 := by decide +kernel
def p_5_1_2 : List Int := [1, 1, 2, 2, 3, 3, 3, 2, 2, 1, 1]
theorem v_5_1_2 : vcO 5 1 2 = some p_5_1_2 := by decide +kernel
def p_5_1_3 : List Int := [1, 1, 2, 3, 4, 5, 6, 6, 6, 6, 5, 4, 3, 2, 1, 1]
theorem v_5_1_3 : vcO 5 1 3 = some p_5_1_3 := by decide +kernel
def p_5_1_4 : List Int := [1, 1, 2, 3, 5, 6, 8, 9, 11, 11, 12, 11, 11, 9, 8, 6, 5, 3, 2, 1, 1]
theorem v_5_1_4 : vcO 5 1 4 = some p_5_1_4 := by decide +kernel
def p_5_2_1 : List Int := [1, 1, 2, 2, 3, 3, 3, 2, 2, 1, 1]
theorem v_5_2_1 : vcO 5 2 1 = some p_5_2_1 := by decide +kernel
def p_5_2_2 : List Int := [1, 1, 3, 4, 7, 9, 13, 14, 18, 18, 20, 18, 18, 14, 13, 9, 7, 4, 3, 1, 1]
theorem v_5_2_2 : vcO 5 2 2 = some p_5_2_2 := by decide +kernel
def p_5_2_3 : List Int := [1, 1, 3, 5, 9, 13, 21, 27, 38, 47, 59, 67, 79, 83, 90, 90, 90, 83, 79, 67, 59, 47, 38, 27, 21, 13, 9, 5, 3, 1, 1]
theorem v_5_2_3 : vcO 5 2 3 = some p_5_2_3 := by decide +kernel
def p_5_2_4 : List Int := [1, 1, 3, 5, 10, 15, 25, 35, 53, 70, 96, 120, 154, 182, 219, 247, 281, 301, 325, 332, 342, 332, 325, 301, 281, 247, 219, 182, 154, 120, 96, 70, 53, 35, 25, 15, 10, 5, 3, 1, 1]
theorem v_5_2_4 : vcO 5 2 4 = some p_5_2_4 := by decide +kernel
def p_5_3_1 : List Int := [1, 1, 2, 3, 4, 5, 6, 6, 6, 6, 5, 4, 3, 2, 1, 1]
theorem v_5_3_1 : vcO 5 3 1 = some p_5_3_1 := by decide +kernel
def p_5_3_2 : List Int := [1, 1, 3, 5, 9, 13, 21, 27, 38, 47, 59, 67, 79, 83, 90, 90, 90, 83, 79, 67, 59, 47, 38, 27, 21, 13, 9, 5, 3, 1, 1]
theorem v_5_3_2 : vcO 5 3 2 = some p_5_3_2 := by decide +kernel
def p_5_3_3 : List Int := [1, 1, 3, 6, 11, 18, 31, 46, 70, 100, 139, 185, 244, 306, 379, 456, 534, 610, 685, 746, 798, 835, 852, 852, 835, 798, 746, 685, 610, 534, 456, 379, 306, 244, 185, 139, 100, 70, 46, 31, 18, 11, 6, 3, 1, 1]
theorem v_5_3_3 : vcO 5 3 3 = some p_5_3_3 := by decide +kernel
def p_5_3_4 : List Int := [1, 1, 3, 6, 12, 20, 36, 56, 91, 136, 203, 287, 407, 548, 736, 955, 1225, 1525, 1883, 2259, 2686, 3116, 3574, 4010, 4454, 4837, 5199, 5477, 5704, 5823, 5884, 5823, 5704, 5477, 5199, 4837, 4454, 4010, 3574, 3116, 2686, 2259, 1883, 1525, 1225, 955, 736, 548, 407, 287, 203, 136, 91, 56, 36, 20, 12, 6, 3, 1, 1]
theorem v_5_3_4 : vcO 5 3 4 = some p_5_3_4 := by decide +kernel
def p_5_4_1 : List Int := [1, 1, 2, 3, 5, 6, 8, 9, 11, 11, 12, 11, 11, 9, 8, 6, 5, 3, 2, 1, 1]
theorem v_5_4_1 : vcO 5 4 1 = some p_5_4_1 := by decide +kernel
def p_5_4_2 : List Int := [1, 1, 3, 5, 10, 15, 25, 35, 53, 70, 96, 120, 154, 182, 219, 247, 281, 301, 325, 332, 342, 332, 325, 301, 281, 247, 219, 182, 154, 120, 96, 70, 53, 35, 25, 15, 10, 5, 3, 1, 1]
theorem v_5_4_2 : vcO 5 4 2 = some p_5_4_2 := by decide +kernel
def p_5_4_3 : List Int := [1, 1, 3, 6, 12, 20, 36, 56, 91, 136, 203, 287, 407, 548, 736, 955, 1225, 1525, 1883, 2259, 2686, 3116, 3574, 4010, 4454, 4837, 5199, 5477, 5704, 5823, 5884, 5823, 5704, 5477, 5199, 4837, 4454, 4010, 3574, 3116, 2686, 2259, 1883, 1525, 1225, 955, 736, 548, 407, 287, 203, 136, 91, 56, 36, 20, 12, 6, 3, 1, 1]
theorem v_5_4_3 : vcO 5 4 3 = some p_5_4_3 := by decide +kernel
def p_5_4_4 : List Int := [1, 1, 3, 6, 13, 22, 41, 67, 114, 178, 281, 419, 628, 899, 1284, 1776, 2438, 3256, 4316, 5589, 7175, 9024, 11245, 13761, 16684, 19891, 23491, 27321, 31476, 35737, 40199, 44595, 49015, 53158, 57121, 60591, 63684, 66088, 67959, 69013, 69448, 69013, 67959, 66088, 63684, 60591, 57121, 53158, 49015, 44595, 40199, 35737, 31476, 27321, 23491, 19891, 16684, 13761, 11245, 9024, 7175, 5589, 4316, 3256, 2438, 1776, 1284, 899, 628, 419, 281, 178, 114, 67, 41, 22, 13, 6, 3, 1, 1]
theorem v_5_4_4 : vcO 5 4 4 = some p_5_4_4 := by decide +kernel
theorem n_1_1_3 : F_ulaw_counts [eN 1, eN 1, eN 3] = some (dI p_1_1_3, [eN 1, eN 1, eN 3]) := by kernel_rfl
theorem n_1_3_2 : F_ulaw_counts [eN 1, eN 3, eN 2] = some (dI p_1_3_2, [eN 1, eN 3, eN 2]) := by kernel_rfl
theorem n_2_1_4 : F_ulaw_counts [eN 2, eN 1, eN 4] = some (dI p_2_1_4, [eN 2, eN 1, eN 4]) := by kernel_rfl
theorem n_2_2_2 : F_ulaw_counts [eN 2, eN 2, eN 2] = some (dI p_2_2_2, [eN 2, eN 2, eN 2]) := by kernel_rfl
theorem n_2_2_3 : F_ulaw_counts [eN 2, eN 2, eN 3] = some (dI p_2_2_3, [eN 2, eN 2, eN 3]) := by kernel_rfl
theorem n_3_2_2 : F_ulaw_counts [eN 3, eN 2, eN 2] = some (dI p_3_2_2, [eN 3, eN 2, eN 2]) := by kernel_rfl
theorem n_2_3_2 : F_ulaw_counts [eN 2, eN 3, eN 2] = some (dI p_2_3_2, [eN 2, eN 3, eN 2]) := by kernel_rfl
theorem n_3_3_1 : F_ulaw_counts [eN 3, eN 3, eN 1] = some (dI p_3_3_1, [eN 3, eN 3, eN 1]) := by kernel_rfl
theorem n_2_2_4 : F_ulaw_counts [eN 2, eN 2, eN 4] = some (dI p_2_2_4, [eN 2, eN 2, eN 4]) := by kernel_rfl
theorem n_3_1_3 : F_ulaw_counts [eN 3, eN 1, eN 3] = some (dI p_3_1_3, [eN 3, eN 1, eN 3]) := by kernel_rfl
theorem n_1_4_3 : F_ulaw_counts [eN 1, eN 4, eN 3] = some (dI p_1_4_3, [eN 1, eN 4, eN 3]) := by kernel_rfl
theorem n_3_3_2 : F_ulaw_counts [eN 3, eN 3, eN 2] = some (dI p_3_3_2, [eN 3, eN 3, eN 2]) := by kernel_rfl
structure Chk (a b c : Nat) (v : List Int) : Prop where
  v1 : vcO a b c = some v
  rev : v.reverse = v
  len : v.length = a * b * c + 1
  v2 : vcO c a b = some v
  low : v.take (min a (min b c) + 1) = anyL.take (min a (min b c) + 1)
theorem k_1_1_1 : Chk 1 1 1 p_1_1_1 := ⟨v_1_1_1, by decide +kernel, by decide +kernel, v_1_1_1, by decide +kernel⟩
theorem k_1_1_2 : Chk 1 1 2 p_1_1_2 := ⟨v_1_1_2, by decide +kernel, by decide +kernel, v_2_1_1, by decide +kernel⟩
theorem k_1_1_3 : Chk 1 1 3 p_1_1_3 := ⟨v_1_1_3, by decide +kernel, by decide +kernel, v_3_1_1, by decide +kernel⟩
theorem k_1_1_4 : Chk 1 1 4 p_1_1_4 := ⟨v_1_1_4, by decide +kernel, by decide +kernel, v_4_1_1, by decide +kernel⟩
theorem k_1_1_5 : Chk 1 1 5 p_1_1_5 := ⟨v_1_1_5, by decide +kernel, by decide +kernel, v_5_1_1, by decide +kernel⟩
theorem k_1_2_1 : Chk 1 2 1 p_1_2_1 := ⟨v_1_2_1, by decide +kernel, by decide +kernel, v_1_1_2, by decide +kernel⟩
theorem k_1_2_2 : Chk 1 2 2 p_1_2_2 := ⟨v_1_2_2, by decide +kernel, by decide +kernel, v_2_1_2, by decide +kernel⟩
theorem k_1_2_3 : Chk 1 2 3 p_1_2_3 := ⟨v_1_2_3, by decide +kernel, by decide +kernel, v_3_1_2, by decide +kernel⟩
theorem k_1_2_4 : Chk 1 2 4 p_1_2_4 := ⟨v_1_2_4, by decide +kernel, by decide +kernel, v_4_1_2, by decide +kernel⟩
theorem k_1_2_5 : Chk 1 2 5 p_1_2_5 := ⟨v_1_2_5, by decide +kernel, by decide +kernel, v_5_1_2, by decide +kernel⟩
theorem k_1_3_1 : Chk 1 3 1 p_1_3_1 := ⟨v_1_3_1, by decide +kernel, by decide +kernel, v_1_1_3, by decide +kernel⟩
theorem k_1_3_2 : Chk 1 3 2 p_1_3_2 := ⟨v_1_3_2, by decide +kernel, by decide +kernel, v_2_1_3, by decide +kernel⟩
theorem k_1_3_3 : Chk 1 3 3 p_1_3_3 := ⟨v_1_3_3, by decide +kernel, by decide +kernel, v_3_1_3, by decide +kernel⟩
theorem k_1_3_4 : Chk 1 3 4 p_1_3_4 := ⟨v_1_3_4, by decide +kernel, by decide +kernel, v_4_1_3, by decide +kernel⟩
theorem k_1_3_5 : Chk 1 3 5 p_1_3_5 := ⟨v_1_3_5, by decide +kernel, by decide +kernel, v_5_1_3, by decide +kernel⟩
theorem k_1_4_1 : Chk 1 4 1 p_1_4_1 := ⟨v_1_4_1, by decide +kernel, by decide +kernel, v_1_1_4, by decide +kernel⟩
theorem k_1_4_2 : Chk 1 4 2 p_1_4_2 := ⟨v_1_4_2, by decide +kernel, by decide +kernel, v_2_1_4, by decide +kernel⟩
theorem k_1_4_3 : Chk 1 4 3 p_1_4_3 := ⟨v_1_4_3, by decide +kernel, by decide +kernel, v_3_1_4, by decide +kernel⟩
theorem k_1_4_4 : Chk 1 4 4 p_1_4_4 := ⟨v_1_4_4, by decide +kernel, by decide +kernel, v_4_1_4, by decide +kernel⟩
theorem k_1_4_5 : Chk 1 4 5 p_1_4_5 := ⟨v_1_4_5, by decide +kernel, by decide +kernel, v_5_1_4, by decide +kernel⟩
theorem k_2_1_1 : Chk 2 1 1 p_2_1_1 := ⟨v_2_1_1, by decide +kernel, by decide +kernel, v_1_2_1, by decide +kernel⟩
theorem k_2_1_2 : Chk 2 1 2 p_2_1_2 := ⟨v_2_1_2, by decide +kernel, by decide +kernel, v_2_2_1, by decide +kernel⟩
theorem k_2_1_3 : Chk 2 1 3 p_2_1_3 := ⟨v_2_1_3, by decide +kernel, by decide +kernel, v_3_2_1, by decide +kernel⟩
theorem k_2_1_4 : Chk 2 1 4 p_2_1_4 := ⟨v_2_1_4, by decide +kernel, by decide +kernel, v_4_2_1, by decide +kernel⟩
theorem k_2_1_5 : Chk 2 1 5 p_2_1_5 := ⟨v_2_1_5, by decide +kernel, by decide +kernel, v_5_2_1, by decide +kernel⟩
theorem k_2_2_1 : Chk 2 2 1 p_2_2_1 := ⟨v_2_2_1, by decide +kernel, by decide +kernel, v_1_2_2, by decide +kernel⟩
theorem k_2_2_2 : Chk 2 2 2 p_2_2_2 := ⟨v_2_2_2, by decide +kernel, by decide +kernel, v_2_2_2, by decide +kernel⟩
theorem k_2_2_3 : Chk 2 2 3 p_2_2_3 := ⟨v_2_2_3, by decide +kernel, by decide +kernel, v_3_2_2, by decide +kernel⟩
theorem k_2_2_4 : Chk 2 2 4 p_2_2_4 := ⟨v_2_2_4, by decide +kernel, by decide +kernel, v_4_2_2, by decide +kernel⟩
theorem k_2_2_5 : Chk 2 2 5 p_2_2_5 := ⟨v_2_2_5, by decide +kernel, by decide +kernel, v_5_2_2, by decide +kernel⟩
theorem k_2_3_1 : Chk 2 3 1 p_2_3_1 := ⟨v_2_3_1, by decide +kernel, by decide +kernel, v_1_2_3, by decide +kernel⟩
theorem k_2_3_2 : Chk 2 3 2 p_2_3_2 := ⟨v_2_3_2, by decide +kernel, by decide +kernel, v_2_2_3, by decide +kernel⟩
theorem k_2_3_3 : Chk 2 3 3 p_2_3_3 := ⟨v_2_3_3, by decide +kernel, by decide +kernel, v_3_2_3, by decide +kernel⟩
theorem k_2_3_4 : Chk 2 3 4 p_2_3_4 := ⟨v_2_3_4, by decide +kernel, by decide +kernel, v_4_2_3, by decide +kernel⟩
theorem k_2_3_5 : Chk 2 3 5 p_2_3_5 := ⟨v_2_3_5, by decide +kernel, by decide +kernel, v_5_2_3, by decide +kernel⟩
theorem k_2_4_1 : Chk 2 4 1 p_2_4_1 := ⟨v_2_4_1, by decide +kernel, by decide +kernel, v_1_2_4, by decide +kernel⟩
theorem k_2_4_2 : Chk 2 4 2 p_2_4_2 := ⟨v_2_4_2, by decide +kernel, by decide +kernel, v_2_2_4, by decide +kernel⟩
theorem k_2_4_3 : Chk 2 4 3 p_2_4_3 := ⟨v_2_4_3, by decide +kernel, by decide +kernel, v_3_2_4, by decide +kernel⟩
theorem k_2_4_4 : Chk 2 4 4 p_2_4_4 := ⟨v_2_4_4, by decide +kernel, by decide +kernel, v_4_2_4, by decide +kernel⟩
theorem k_2_4_5 : Chk 2 4 5 p_2_4_5 := ⟨v_2_4_5, by decide +kernel, by decide +kernel, v_5_2_4, by decide +kernel⟩
theorem k_3_1_1 : Chk 3 1 1 p_3_1_1 := ⟨v_3_1_1, by decide +kernel, by decide +kernel, v_1_3_1, by decide +kernel⟩
theorem k_3_1_2 : Chk 3 1 2 p_3_1_2 := ⟨v_3_1_2, by decide +kernel, by decide +kernel, v_2_3_1, by decide +kernel⟩
theorem k_3_1_3 : Chk 3 1 3 p_3_1_3 := ⟨v_3_1_3, by decide +kernel, by decide +kernel, v_3_3_1, by decide +kernel⟩
theorem k_3_1_4 : Chk 3 1 4 p_3_1_4 := ⟨v_3_1_4, by decide +kernel, by decide +kernel, v_4_3_1, by decide +kernel⟩
theorem k_3_1_5 : Chk 3 1 5 p_3_1_5 := ⟨v_3_1_5, by decide +kernel, by decide +kernel, v_5_3_1, by decide +kernel⟩
theorem k_3_2_1 : Chk 3 2 1 p_3_2_1 := ⟨v_3_2_1, by decide +kernel, by decide +kernel, v_1_3_2, by decide +kernel⟩
theorem k_3_2_2 : Chk 3 2 2 p_3_2_2 := ⟨v_3_2_2, by decide +kernel, by decide +kernel, v_2_3_2, by decide +kernel⟩
theorem k_3_2_3 : Chk 3 2 3 p_3_2_3 := ⟨v_3_2_3, by decide +kernel, by decide +kernel, v_3_3_2, by decide +kernel⟩
theorem k_3_2_4 : Chk 3 2 4 p_3_2_4 := ⟨v_3_2_4, by decide +kernel, by decide +kernel, v_4_3_2, by decide +kernel⟩
theorem k_3_2_5 : Chk 3 2 5 p_3_2_5 := ⟨v_3_2_5, by decide +kernel, by decide +kernel, v_5_3_2, by decide +kernel⟩
theorem k_3_3_1 : Chk 3 3 1 p_3_3_1 := ⟨v_3_3_1, by decide +kernel, by decide +kernel, v_1_3_3, by decide +kernel⟩
theorem k_3_3_2 : Chk 3 3 2 p_3_3_2 := ⟨v_3_3_2, by decide +kernel, by decide +kernel, v_2_3_3, by decide +kernel⟩
theorem k_3_3_3 : Chk 3 3 3 p_3_3_3 := ⟨v_3_3_3, by decide +kernel, by decide +kernel, v_3_3_3, by decide +kernel⟩
theorem k_3_3_4 : Chk 3 3 4 p_3_3_4 := ⟨v_3_3_4, by decide +kernel, by decide +kernel, v_4_3_3, by decide +kernel⟩
theorem k_3_3_5 : Chk 3 3 5 p_3_3_5 := ⟨v_3_3_5, by decide +kernel, by decide +kernel, v_5_3_3, by decide +kernel⟩
theorem k_3_4_1 : Chk 3 4 1 p_3_4_1 := ⟨v_3_4_1, by decide +kernel, by decide +kernel, v_1_3_4, by decide +kernel⟩
theorem k_3_4_2 : Chk 3 4 2 p_3_4_2 := ⟨v_3_4_2, by decide +kernel, by decide +kernel, v_2_3_4, by decide +kernel⟩
theorem k_3_4_3 : Chk 3 4 3 p_3_4_3 := ⟨v_3_4_3, by decide +kernel, by decide +kernel, v_3_3_4, by decide +kernel⟩
theorem k_3_4_4 : Chk 3 4 4 p_3_4_4 := ⟨v_3_4_4, by decide +kernel, by decide +kernel, v_4_3_4, by decide +kernel⟩
theorem k_3_4_5 : Chk 3 4 5 p_3_4_5 := ⟨v_3_4_5, by decide +kernel, by decide +kernel, v_5_3_4, by decide +kernel⟩
theorem k_4_1_1 : Chk 4 1 1 p_4_1_1 := ⟨v_4_1_1, by decide +kernel, by decide +kernel, v_1_4_1, by decide +kernel⟩
theorem k_4_1_2 : Chk 4 1 2 p_4_1_2 := ⟨v_4_1_2, by decide +kernel, by decide +kernel, v_2_4_1, by decide +kernel⟩
theorem k_4_1_3 : Chk 4 1 3 p_4_1_3 := ⟨v_4_1_3, by decide +kernel, by decide +kernel, v_3_4_1, by decide +kernel⟩
theorem k_4_1_4 : Chk 4 1 4 p_4_1_4 := ⟨v_4_1_4, by decide +kernel, by decide +kernel, v_4_4_1, by decide +kernel⟩
theorem k_4_1_5 : Chk 4 1 5 p_4_1_5 := ⟨v_4_1_5, by decide +kernel, by decide +kernel, v_5_4_1, by decide +kernel⟩
theorem k_4_2_1 : Chk 4 2 1 p_4_2_1 := ⟨v_4_2_1, by decide +kernel, by decide +kernel, v_1_4_2, by decide +kernel⟩
theorem k_4_2_2 : Chk 4 2 2 p_4_2_2 := ⟨v_4_2_2, by decide +kernel, by decide +kernel, v_2_4_2, by decide +kernel⟩
theorem k_4_2_3 : Chk 4 2 3 p_4_2_3 := ⟨v_4_2_3, by decide +kernel, by decide +kernel, v_3_4_2, by decide +kernel⟩
theorem k_4_2_4 : Chk 4 2 4 p_4_2_4 := ⟨v_4_2_4, by decide +kernel, by decide +kernel, v_4_4_2, by decide +kernel⟩
theorem k_4_2_5 : Chk 4 2 5 p_4_2_5 := ⟨v_4_2_5, by decide +kernel, by decide +kernel, v_5_4_2, by decide +kernel⟩
theorem k_4_3_1 : Chk 4 3 1 p_4_3_1 := ⟨v_4_3_1, by decide +kernel, by decide +kernel, v_1_4_3, by decide +kernel⟩
theorem k_4_3_2 : Chk 4 3 2 p_4_3_2 := ⟨v_4_3_2, by decide +kernel, by decide +kernel, v_2_4_3, by decide +kernel⟩
theorem k_4_3_3 : Chk 4 3 3 p_4_3_3 := ⟨v_4_3_3, by decide +kernel, by decide +kernel, v_3_4_3, by decide +kernel⟩
theorem k_4_3_4 : Chk 4 3 4 p_4_3_4 := ⟨v_4_3_4, by decide +kernel, by decide +kernel, v_4_4_3, by decide +kernel⟩
theorem k_4_3_5 : Chk 4 3 5 p_4_3_5 := ⟨v_4_3_5, by decide +kernel, by decide +kernel, v_5_4_3, by decide +kernel⟩
theorem k_4_4_1 : Chk 4 4 1 p_4_4_1 := ⟨v_4_4_1, by decide +kernel, by decide +kernel, v_1_4_4, by decide +kernel⟩
theorem k_4_4_2 : Chk 4 4 2 p_4_4_2 := ⟨v_4_4_2, by decide +kernel, by decide +kernel, v_2_4_4, by decide +kernel⟩
theorem k_4_4_3 : Chk 4 4 3 p_4_4_3 := ⟨v_4_4_3, by decide +kernel, by decide +kernel, v_3_4_4, by decide +kernel⟩
theorem k_4_4_4 : Chk 4 4 4 p_4_4_4 := ⟨v_4_4_4, by decide +kernel, by decide +kernel, v_4_4_4, by decide +kernel⟩
theorem k_4_4_5 : Chk 4 4 5 p_4_4_5 := ⟨v_4_4_5, by decide +kernel, by decide +kernel, v_5_4_4, by decide +kernel⟩
theorem chk_all {a b c : Nat} (a0 : 1 ≤ a) (a1 : a ≤ 4) (b0 : 1 ≤ b) (b1 : b ≤ 4) (c0 : 1 ≤ c) (c1 : c ≤ 5) : ∃ v, Chk a b c v := by
  have ha : a = 1 ∨ a = 2 ∨ a = 3 ∨ a = 4 := by omega
  have hb : b = 1 ∨ b = 2 ∨ b = 3 ∨ b = 4 := by omega
  have hc : c = 1 ∨ c = 2 ∨ c = 3 ∨ c = 4 ∨ c = 5 := by omega
  rcases ha with rfl | rfl | rfl | rfl <;> rcases hb with rfl | rfl | rfl | rfl <;> rcases hc with rfl | rfl | rfl | rfl | rfl
  · exact ⟨_, k_1_1_1⟩
  · exact ⟨_, k_1_1_2⟩
  · exact ⟨_, k_1_1_3⟩
  · exact ⟨_, k_1_1_4⟩
  · exact ⟨_, k_1_1_5⟩
  · exact ⟨_, k_1_2_1⟩
  · exact ⟨_, k_1_2_2⟩
  · exact ⟨_, k_1_2_3⟩
  · exact ⟨_, k_1_2_4⟩
  · exact ⟨_, k_1_2_5⟩
  · exact ⟨_, k_1_3_1⟩
  · exact ⟨_, k_1_3_2⟩
  · exact ⟨_, k_1_3_3⟩
  · exact ⟨_, k_1_3_4⟩
  · exact ⟨_, k_1_3_5⟩
  · exact ⟨_, k_1_4_1⟩
  · exact ⟨_, k_1_4_2⟩
  · exact ⟨_, k_1_4_3⟩
  · exact ⟨_, k_1_4_4⟩
  · exact ⟨_, k_1_4_5⟩
  · exact ⟨_, k_2_1_1⟩
  · exact ⟨_, k_2_1_2⟩
  · exact ⟨_, k_2_1_3⟩
  · exact ⟨_, k_2_1_4⟩
  · exact ⟨_, k_2_1_5⟩
  · exact ⟨_, k_2_2_1⟩
  · exact ⟨_, k_2_2_2⟩
  · exact ⟨_, k_2_2_3⟩
  · exact ⟨_, k_2_2_4⟩
  · exact ⟨_, k_2_2_5⟩
  · exact ⟨_, k_2_3_1⟩
  · exact ⟨_, k_2_3_2⟩
  · exact ⟨_, k_2_3_3⟩
  · exact ⟨_, k_2_3_4⟩
  · exact ⟨_, k_2_3_5⟩
  · exact ⟨_, k_2_4_1⟩
  · exact ⟨_, k_2_4_2⟩
  · exact ⟨_, k_2_4_3⟩
  · exact ⟨_, k_2_4_4⟩
  · exact ⟨_, k_2_4_5⟩
  · exact ⟨_, k_3_1_1⟩
  · exact ⟨_, k_3_1_2⟩
  · exact ⟨_, k_3_1_3⟩
  · exact ⟨_, k_3_1_4⟩
  · exact ⟨_, k_3_1_5⟩
  · exact ⟨_, k_3_2_1⟩
  · exact ⟨_, k_3_2_2⟩
  · exact ⟨_, k_3_2_3⟩
  · exact ⟨_, k_3_2_4⟩
  · exact ⟨_, k_3_2_5⟩
  · exact ⟨_, k_3_3_1⟩
  · exact ⟨_, k_3_3_2⟩
  · exact ⟨_, k_3_3_3⟩
  · exact ⟨_, k_3_3_4⟩
  · exact ⟨_, k_3_3_5⟩
  · exact ⟨_, k_3_4_1⟩
  · exact ⟨_, k_3_4_2⟩
  · exact ⟨_, k_3_4_3⟩
  · exact ⟨_, k_3_4_4⟩
  · exact ⟨_, k_3_4_5⟩
  · exact ⟨_, k_4_1_1⟩
  · exact ⟨_, k_4_1_2⟩
  · exact ⟨_, k_4_1_3⟩
  · exact ⟨_, k_4_1_4⟩
  · exact ⟨_, k_4_1_5⟩
  · exact ⟨_, k_4_2_1⟩
  · exact ⟨_, k_4_2_2⟩
  · exact ⟨_, k_4_2_3⟩
  · exact ⟨_, k_4_2_4⟩
  · exact ⟨_, k_4_2_5⟩
  · exact ⟨_, k_4_3_1⟩
  · exact ⟨_, k_4_3_2⟩
  · exact ⟨_, k_4_3_3⟩
  · exact ⟨_, k_4_3_4⟩
  · exact ⟨_, k_4_3_5⟩
  · exact ⟨_, k_4_4_1⟩
  · exact ⟨_, k_4_4_2⟩
  · exact ⟨_, k_4_4_3⟩
  · exact ⟨_, k_4_4_4⟩
  · exact ⟨_, k_4_4_5⟩
theorem dI_okx {v : List Int} (h : v.length ≤ 1000000) (n : Nat) : D.okx (n + 2) (dI v) = true := D.okx_lst (by rw [List.length_map, sizeLine_eq]; omega) fun x hx => by
  obtain ⟨i, _, rfl⟩ := List.mem_map.mp hx; rfl
theorem law_c2_ok {a b c i j : Nat} {h : Nat → Nat → Nat} {d1 d8 : D} (hc : ∀ i j, i < a → j < b → h i j ≤ c) (hl : a * (b * c) ≤ 1000000) (s0 d6 d7 d9 : D) :
    law_c2 [s0, d1, .und, eN a, eN b, eN c, d6, d7, d8, d9, .lst ((cubL a b h).map e3), .und, .und, .und, .und, eN i, eN j] = some (.lst (((cubL a b h).filter fun t => decide (t.2.2 = i ∧ t.1 = j)).map fun _ => .int 1), [s0, d1, .und, eN a, eN b, eN c, d6, d7, d8, d9, .lst ((cubL a b h).map e3), .und, .und, .und, .und, eN i, eN j]) := by
  refine lc_if (xs := cubL a b h) (e := e3) (fun t => [s0, d1, .und, eN a, eN b, eN c, d6, d7, d8, d9, .lst ((cubL a b h).map e3), .und, eN t.1, eN t.2.1, eN t.2.2, eN i, eN j]) (fun t => decide (t.2.2 = i ∧ t.1 = j)) (fun _ => .int 1) rfl (fun _ _ => rfl) (fun t _ => ?_) (fun _ _ _ => rfl) (fun _ _ => rfl) rfl (by have := cubL_len hc; rw [sizeLine_eq]; omega)
  by_cases h1 : t.2.2 = i
  · simp only [seqS_ap, contS_nx, contS_rt, contS_bk, contS_ct, nilS_ap, killS_ap, setS_ap, setC_so, dropS_ap, dropC_so, retS_ap, retC_so, retN_ap, bkS_ap, ctS_ap, ifS_ap, ifC_t, ifC_f, forS_ap, forC_so, asgS_ap, asgC_so, seqF_nil, seqF_cons, seqC_so, seqC2_so, odK_f, odK_al, odE_f, odE_al, opF_ap, opC_so, opC2_so, cF_ap, rd_ap, rdC_non, rdC_bl, rdC_int, rdC_str, rdC_tup, rdC_lst, rdC_dct, callF_ap, callC_so, callC2_so, wb_nil, wb_e, wb_k, tstF_ap, tstC_so, notF_ap, notC_so, andF_ap, andC_t, andC_f, orF_ap, orC_t, orC_f, ifF_ap, ifFC_t, ifFC_f, blF_ap, blC_so, andV_ap, andVC_t, andVC_f, orV_ap, orVC_t, orVC_f, notV_ap, notVC_so, truO_ap, truC_bl, truC_int, truC_lst, truC_tup, truC_non, fnF_ap, fnC_rt, fnC_nx, par2_ap, parC_so, parC2_so, par3_ap, par3C_so, par3C2_so, par3C3_so, tgN_ap, tgT2_ap, tgT3_ap, appF_ap, appC0_so, stS_ap, stC_so, stC1_so, yesF_ap, List.set_cons_zero, List.set_cons_succ, List.getElem?_cons_zero, List.getElem?_cons_succ, Option.map_some, Bool.not_true, Bool.not_false, Bool.false_eq_true, if_true, if_false, reduceCtorEq, eN_rd, int_0, int_1, int_2, int_3, addD_eN, eqD_eN, neD_eN, ltD_eN, leD_eN, gtD_eN, geD_eN, min2D_eN, max2D_eN, min3D_eN, intD_eN, intD_bl, eqD_bl, neD_bl, lenD_lstN, lenD_tupN, listD_lst, listD_tup, tupleD_lst, tupleD_tup, lstD_0, lstD_1, lstD_2, lstD_3, tupD_0, tupD_1, tupD_2, tupD_3, slRD_lst, slRD_tup, h1, decide_true, true_and]
  · simp only [seqS_ap, contS_nx, contS_rt, contS_bk, contS_ct, nilS_ap, killS_ap, setS_ap, setC_so, dropS_ap, dropC_so, retS_ap, retC_so, retN_ap, bkS_ap, ctS_ap, ifS_ap, ifC_t, ifC_f, forS_ap, forC_so, asgS_ap, asgC_so, seqF_nil, seqF_cons, seqC_so, seqC2_so, odK_f, odK_al, odE_f, odE_al, opF_ap, opC_so, opC2_so, cF_ap, rd_ap, rdC_non, rdC_bl, rdC_int, rdC_str, rdC_tup, rdC_lst, rdC_dct, callF_ap, callC_so, callC2_so, wb_nil, wb_e, wb_k, tstF_ap, tstC_so, notF_ap, notC_so, andF_ap, andC_t, andC_f, orF_ap, orC_t, orC_f, ifF_ap, ifFC_t, ifFC_f, blF_ap, blC_so, andV_ap, andVC_t, andVC_f, orV_ap, orVC_t, orVC_f, notV_ap, notVC_so, truO_ap, truC_bl, truC_int, truC_lst, truC_tup, truC_non, fnF_ap, fnC_rt, fnC_nx, par2_ap, parC_so, parC2_so, par3_ap, par3C_so, par3C2_so, par3C3_so, tgN_ap, tgT2_ap, tgT3_ap, appF_ap, appC0_so, stS_ap, stC_so, stC1_so, yesF_ap, List.set_cons_zero, List.set_cons_succ, List.getElem?_cons_zero, List.getElem?_cons_succ, Option.map_some, Bool.not_true, Bool.not_false, Bool.false_eq_true, if_true, if_false, reduceCtorEq, eN_rd, int_0, int_1, int_2, int_3, addD_eN, eqD_eN, neD_eN, ltD_eN, leD_eN, gtD_eN, geD_eN, min2D_eN, max2D_eN, min3D_eN, intD_eN, intD_bl, eqD_bl, neD_bl, lenD_lstN, lenD_tupN, listD_lst, listD_tup, tupleD_lst, tupleD_tup, lstD_0, lstD_1, lstD_2, lstD_3, tupD_0, tupD_1, tupD_2, tupD_3, slRD_lst, slRD_tup, h1, decide_false, false_and]
theorem turn_ok (ns : List Int) (k cc : Int) (x : D) : ∃ k' c' : Int, turn (tgN 2) law_b1 x [scr ns, St0 k cc, .und, .und, .und, .und, .und, .und, .und, .und, .und, .und, .und, .und, .und, .und, .und] = some (.nx [scr ns, St0 k' c', .und, .und, .und, .und, .und, .und, .und, .und, .und, .und, .und, .und, .und, .und, .und]) := by
  obtain ⟨v1, k1, c1, h1, e1⟩ := drawN ns k cc 5 (by omega) (by omega)
  obtain ⟨v2, k2, c2, h2, e2⟩ := drawN ns k1 c1 5 (by omega) (by omega)
  obtain ⟨v3, k3, c3, h3, e3'⟩ := drawN ns k2 c2 5 (by omega) (by omega)
  have a1 : addD [.int 1, .int (v1 : Nat)] = some (eN (1 + v1)) := addD_eN 1 v1
  have a2 : addD [.int 1, .int (v2 : Nat)] = some (eN (1 + v2)) := addD_eN 1 v2
  have a3 : addD [.int 1, .int (v3 : Nat)] = some (eN (1 + v3)) := addD_eN 1 v3
  generalize ha : 1 + v1 = a at a1
  generalize hb : 1 + v2 = b at a2
  generalize hc : 1 + v3 = c at a3
  have ha5 : 1 ≤ a ∧ a ≤ 5 := by omega
  have hb5 : 1 ≤ b ∧ b ≤ 5 := by omega
  have hc5 : 1 ≤ c ∧ c ≤ 5 := by omega
  clear ha hb hc h1 h2 h3
  obtain ⟨h, k4, c4, H, eh⟩ := heap_ok ns k3 c3 a b c (by omega) (by omega) (by omega)
  have bound : ∀ {p q r : Nat}, p ≤ 5 → q ≤ 5 → r ≤ 5 → p * (q * r) ≤ 1000000 := fun {p q r} hp hq hr => by
    have := Nat.mul_le_mul hp (Nat.mul_le_mul hq hr); omega
  have hl := bound ha5.2 hb5.2 hc5.2
  have hcub := cubes_ok (a := a) (b := b) (c := c) H.le hl (by omega)
  have hlen := cubL_len H.le
  have L1 : law_c1 [scr ns, St0 k4 c4, .und, eN a, eN b, eN c, .und, .und, .und, dT a b h, .lst ((cubL a b h).map e3), .und, .und, .und, .und, .und, .und] = some (.lst (((cubL a b h).map fun t => (t.2.1, t.1, t.2.2)).map e3), [scr ns, St0 k4 c4, .und, eN a, eN b, eN c, .und, .und, .und, dT a b h, .lst ((cubL a b h).map e3), .und, .und, .und, .und, .und, .und]) := by
    rw [List.map_map]
    refine lc_map (xs := cubL a b h) (e := e3) (fun t => [scr ns, St0 k4 c4, .und, eN a, eN b, eN c, .und, .und, .und, dT a b h, .lst ((cubL a b h).map e3), .und, eN t.1, eN t.2.1, eN t.2.2, .und, .und]) (fun t => e3 (t.2.1, t.1, t.2.2)) rfl (fun _ _ => rfl) (fun t _ => ?_) (fun _ _ => rfl) rfl (by rw [sizeLine_eq]; omega)
    simp only [seqS_ap, contS_nx, contS_rt, contS_bk, contS_ct, nilS_ap, killS_ap, setS_ap, setC_so, dropS_ap, dropC_so, retS_ap, retC_so, retN_ap, bkS_ap, ctS_ap, ifS_ap, ifC_t, ifC_f, forS_ap, forC_so, asgS_ap, asgC_so, seqF_nil, seqF_cons, seqC_so, seqC2_so, odK_f, odK_al, odE_f, odE_al, opF_ap, opC_so, opC2_so, cF_ap, rd_ap, rdC_non, rdC_bl, rdC_int, rdC_str, rdC_tup, rdC_lst, rdC_dct, callF_ap, callC_so, callC2_so, wb_nil, wb_e, wb_k, tstF_ap, tstC_so, notF_ap, notC_so, andF_ap, andC_t, andC_f, orF_ap, orC_t, orC_f, ifF_ap, ifFC_t, ifFC_f, blF_ap, blC_so, andV_ap, andVC_t, andVC_f, orV_ap, orVC_t, orVC_f, notV_ap, notVC_so, truO_ap, truC_bl, truC_int, truC_lst, truC_tup, truC_non, fnF_ap, fnC_rt, fnC_nx, par2_ap, parC_so, parC2_so, par3_ap, par3C_so, par3C2_so, par3C3_so, tgN_ap, tgT2_ap, tgT3_ap, appF_ap, appC0_so, stS_ap, stC_so, stC1_so, yesF_ap, List.set_cons_zero, List.set_cons_succ, List.getElem?_cons_zero, List.getElem?_cons_succ, Option.map_some, Bool.not_true, Bool.not_false, Bool.false_eq_true, if_true, if_false, reduceCtorEq, eN_rd, int_0, int_1, int_2, int_3, addD_eN, eqD_eN, neD_eN, ltD_eN, leD_eN, gtD_eN, geD_eN, min2D_eN, max2D_eN, min3D_eN, intD_eN, intD_bl, eqD_bl, neD_bl, lenD_lstN, lenD_tupN, listD_lst, listD_tup, tupleD_lst, tupleD_tup, lstD_0, lstD_1, lstD_2, lstD_3, tupD_0, tupD_1, tupD_2, tupD_3, slRD_lst, slRD_tup, e3]
  have F1 : F_from_cubes [.lst (((cubL a b h).map fun t => (t.2.1, t.1, t.2.2)).map e3), eN b, eN a] = some (dT b a (fun j i => h i j), [.lst (((cubL a b h).map fun t => (t.2.1, t.1, t.2.2)).map e3), eN b, eN a]) := by
    have := from_cubes_ok (a := b) (b := a) (L := (cubL a b h).map fun t => (t.2.1, t.1, t.2.2)) (by omega) (by omega) (fun t ht => by
      obtain ⟨u, hu, rfl⟩ := List.mem_map.mp ht
      have := mem_cubL.mp hu
      exact ⟨this.2.1, this.1⟩) _ (.inl rfl)
    rw [show dT b a (fun i j => ((cubL a b h).map fun t => (t.2.1, t.1, t.2.2)).countP fun t => decide (t.1 = i ∧ t.2.1 = j)) = dT b a (fun j i => h i j) from dT_congr fun i j hi hj => by
      show List.countP _ _ = h j i
      rw [List.countP_map, ← count_cub (a := a) (b := b) (h := h) hj hi]
      refine List.countP_congr fun t _ => ?_
      show decide (t.2.1 = i ∧ t.1 = j) = true ↔ _
      simp only [decide_eq_true_eq]; exact And.comm] at this
    exact this
  have W1 := swapped_ok (a := a) (b := b) (h := h) (by omega) (by omega) (by omega)
  have W2 := swapped_ok (a := b) (b := a) (h := fun j i => h i j) (by omega) (by omega) (by omega)
  have X : ∀ (p q : Nat) (f : Nat → Nat → Nat), p ≤ 5 → q ≤ 5 → F_ulaw_exact 12 [dT p q f, dT p q f] = some (.bl true, [dT p q f, dT p q f]) := fun p q f hp hq => exact_refl 12 _ (dT_okx (by rw [sizeLine_eq]; omega) (by rw [sizeLine_eq]; omega) 9)
  have X1 := X b a (fun j i => h i j) hb5.2 ha5.2
  have X2 := X a b h ha5.2 hb5.2
  have L4 : law_c4 [scr ns, St0 k4 c4, .und, eN a, eN b, eN c, .und, .und, .und, dT a b h, .lst ((cubL a b h).map e3), .und, .und, .und, .und, .und, .und] = some (.lst ((List.range c).map fun i => .tup ((List.range a).map fun j => eN (rollF b h i j))), [scr ns, St0 k4 c4, .und, eN a, eN b, eN c, .und, .und, .und, dT a b h, .lst ((cubL a b h).map e3), .und, .und, .und, .und, .und, .und]) := by
    refine lc_map (xs := List.range c) (e := eN) (fun i => [scr ns, St0 k4 c4, .und, eN a, eN b, eN c, .und, .und, .und, dT a b h, .lst ((cubL a b h).map e3), .und, .und, .und, .und, eN i, .und]) (fun i => .tup ((List.range a).map fun j => eN (rollF b h i j))) (rng1_of (by simp only [eN, seqS_ap, contS_nx, contS_rt, contS_bk, contS_ct, nilS_ap, killS_ap, setS_ap, setC_so, dropS_ap, dropC_so, retS_ap, retC_so, retN_ap, bkS_ap, ctS_ap, ifS_ap, ifC_t, ifC_f, forS_ap, forC_so, asgS_ap, asgC_so, seqF_nil, seqF_cons, seqC_so, seqC2_so, odK_f, odK_al, odE_f, odE_al, opF_ap, opC_so, opC2_so, cF_ap, rd_ap, rdC_non, rdC_bl, rdC_int, rdC_str, rdC_tup, rdC_lst, rdC_dct, callF_ap, callC_so, callC2_so, wb_nil, wb_e, wb_k, tstF_ap, tstC_so, notF_ap, notC_so, andF_ap, andC_t, andC_f, orF_ap, orC_t, orC_f, ifF_ap, ifFC_t, ifFC_f, blF_ap, blC_so, andV_ap, andVC_t, andVC_f, orV_ap, orVC_t, orVC_f, notV_ap, notVC_so, truO_ap, truC_bl, truC_int, truC_lst, truC_tup, truC_non, fnF_ap, fnC_rt, fnC_nx, par2_ap, parC_so, parC2_so, par3_ap, par3C_so, par3C2_so, par3C3_so, tgN_ap, tgT2_ap, tgT3_ap, appF_ap, appC0_so, stS_ap, stC_so, stC1_so, yesF_ap, List.set_cons_zero, List.set_cons_succ, List.getElem?_cons_zero, List.getElem?_cons_succ, Option.map_some, Bool.not_true, Bool.not_false, Bool.false_eq_true, if_true, if_false, reduceCtorEq, addD_int, subD_int, ltD_int, leD_int, gtD_int, geD_int, min2D_int, max2D_int, negD_int, intD_int, intD_bl, eqD_int, neD_int, eqD_bl, neD_bl, lenD_lst, lenD_tup, listD_lst, listD_tup, tupleD_lst, tupleD_tup, lstD_0, lstD_1, lstD_2, lstD_3, tupD_0, tupD_1, tupD_2, tupD_3, slRD_lst, slRD_tup]) (by omega)) (fun _ _ => rfl) (fun i hi => ?_) (fun _ _ => rfl) rfl (by rw [List.length_range, sizeLine_eq]; omega)
    have c3 : law_c3 [scr ns, St0 k4 c4, .und, eN a, eN b, eN c, .und, .und, .und, dT a b h, .lst ((cubL a b h).map e3), .und, .und, .und, .und, eN i, .und] = some (.lst ((List.range a).map fun j => eN (rollF b h i j)), [scr ns, St0 k4 c4, .und, eN a, eN b, eN c, .und, .und, .und, dT a b h, .lst ((cubL a b h).map e3), .und, .und, .und, .und, eN i, .und]) := by
      refine lc_map (xs := List.range a) (e := eN) (fun j => [scr ns, St0 k4 c4, .und, eN a, eN b, eN c, .und, .und, .und, dT a b h, .lst ((cubL a b h).map e3), .und, .und, .und, .und, eN i, eN j]) (fun j => eN (rollF b h i j)) (rng1_of (by simp only [eN, seqS_ap, contS_nx, contS_rt, contS_bk, contS_ct, nilS_ap, killS_ap, setS_ap, setC_so, dropS_ap, dropC_so, retS_ap, retC_so, retN_ap, bkS_ap, ctS_ap, ifS_ap, ifC_t, ifC_f, forS_ap, forC_so, asgS_ap, asgC_so, seqF_nil, seqF_cons, seqC_so, seqC2_so, odK_f, odK_al, odE_f, odE_al, opF_ap, opC_so, opC2_so, cF_ap, rd_ap, rdC_non, rdC_bl, rdC_int, rdC_str, rdC_tup, rdC_lst, rdC_dct, callF_ap, callC_so, callC2_so, wb_nil, wb_e, wb_k, tstF_ap, tstC_so, notF_ap, notC_so, andF_ap, andC_t, andC_f, orF_ap, orC_t, orC_f, ifF_ap, ifFC_t, ifFC_f, blF_ap, blC_so, andV_ap, andVC_t, andVC_f, orV_ap, orVC_t, orVC_f, notV_ap, notVC_so, truO_ap, truC_bl, truC_int, truC_lst, truC_tup, truC_non, fnF_ap, fnC_rt, fnC_nx, par2_ap, parC_so, parC2_so, par3_ap, par3C_so, par3C2_so, par3C3_so, tgN_ap, tgT2_ap, tgT3_ap, appF_ap, appC0_so, stS_ap, stC_so, stC1_so, yesF_ap, List.set_cons_zero, List.set_cons_succ, List.getElem?_cons_zero, List.getElem?_cons_succ, Option.map_some, Bool.not_true, Bool.not_false, Bool.false_eq_true, if_true, if_false, reduceCtorEq, addD_int, subD_int, ltD_int, leD_int, gtD_int, geD_int, min2D_int, max2D_int, negD_int, intD_int, intD_bl, eqD_int, neD_int, eqD_bl, neD_bl, lenD_lst, lenD_tup, listD_lst, listD_tup, tupleD_lst, tupleD_tup, lstD_0, lstD_1, lstD_2, lstD_3, tupD_0, tupD_1, tupD_2, tupD_3, slRD_lst, slRD_tup]) (by omega)) (fun _ _ => rfl) (fun j hj => ?_) (fun _ _ => rfl) rfl (by rw [List.length_range, sizeLine_eq]; omega)
      have q := law_c2_ok (i := i) (j := j) (d1 := St0 k4 c4) (d8 := .und) H.le hl (scr ns) .und .und (dT a b h)
      have hj' := List.mem_range.mp hj
      have : ((List.filter (fun t => decide (t.2.2 = i ∧ t.1 = j)) (cubL a b h))).length = rollF b h i j := by rw [← List.countP_eq_length_filter, count_roll hj']
      simp only [seqS_ap, contS_nx, contS_rt, contS_bk, contS_ct, nilS_ap, killS_ap, setS_ap, setC_so, dropS_ap, dropC_so, retS_ap, retC_so, retN_ap, bkS_ap, ctS_ap, ifS_ap, ifC_t, ifC_f, forS_ap, forC_so, asgS_ap, asgC_so, seqF_nil, seqF_cons, seqC_so, seqC2_so, odK_f, odK_al, odE_f, odE_al, opF_ap, opC_so, opC2_so, cF_ap, rd_ap, rdC_non, rdC_bl, rdC_int, rdC_str, rdC_tup, rdC_lst, rdC_dct, callF_ap, callC_so, callC2_so, wb_nil, wb_e, wb_k, tstF_ap, tstC_so, notF_ap, notC_so, andF_ap, andC_t, andC_f, orF_ap, orC_t, orC_f, ifF_ap, ifFC_t, ifFC_f, blF_ap, blC_so, andV_ap, andVC_t, andVC_f, orV_ap, orVC_t, orVC_f, notV_ap, notVC_so, truO_ap, truC_bl, truC_int, truC_lst, truC_tup, truC_non, fnF_ap, fnC_rt, fnC_nx, par2_ap, parC_so, parC2_so, par3_ap, par3C_so, par3C2_so, par3C3_so, tgN_ap, tgT2_ap, tgT3_ap, appF_ap, appC0_so, stS_ap, stC_so, stC1_so, yesF_ap, List.set_cons_zero, List.set_cons_succ, List.getElem?_cons_zero, List.getElem?_cons_succ, Option.map_some, Bool.not_true, Bool.not_false, Bool.false_eq_true, if_true, if_false, reduceCtorEq, eN_rd, int_0, int_1, int_2, int_3, addD_eN, eqD_eN, neD_eN, ltD_eN, leD_eN, gtD_eN, geD_eN, min2D_eN, max2D_eN, min3D_eN, intD_eN, intD_bl, eqD_bl, neD_bl, lenD_lstN, lenD_tupN, listD_lst, listD_tup, tupleD_lst, tupleD_tup, lstD_0, lstD_1, lstD_2, lstD_3, tupD_0, tupD_1, tupD_2, tupD_3, slRD_lst, slRD_tup, q, List.length_map, this]
    simp only [seqS_ap, contS_nx, contS_rt, contS_bk, contS_ct, nilS_ap, killS_ap, setS_ap, setC_so, dropS_ap, dropC_so, retS_ap, retC_so, retN_ap, bkS_ap, ctS_ap, ifS_ap, ifC_t, ifC_f, forS_ap, forC_so, asgS_ap, asgC_so, seqF_nil, seqF_cons, seqC_so, seqC2_so, odK_f, odK_al, odE_f, odE_al, opF_ap, opC_so, opC2_so, cF_ap, rd_ap, rdC_non, rdC_bl, rdC_int, rdC_str, rdC_tup, rdC_lst, rdC_dct, callF_ap, callC_so, callC2_so, wb_nil, wb_e, wb_k, tstF_ap, tstC_so, notF_ap, notC_so, andF_ap, andC_t, andC_f, orF_ap, orC_t, orC_f, ifF_ap, ifFC_t, ifFC_f, blF_ap, blC_so, andV_ap, andVC_t, andVC_f, orV_ap, orVC_t, orVC_f, notV_ap, notVC_so, truO_ap, truC_bl, truC_int, truC_lst, truC_tup, truC_non, fnF_ap, fnC_rt, fnC_nx, par2_ap, parC_so, parC2_so, par3_ap, par3C_so, par3C2_so, par3C3_so, tgN_ap, tgT2_ap, tgT3_ap, appF_ap, appC0_so, stS_ap, stC_so, stC1_so, yesF_ap, List.set_cons_zero, List.set_cons_succ, List.getElem?_cons_zero, List.getElem?_cons_succ, Option.map_some, Bool.not_true, Bool.not_false, Bool.false_eq_true, if_true, if_false, reduceCtorEq, eN_rd, int_0, int_1, int_2, int_3, addD_eN, eqD_eN, neD_eN, ltD_eN, leD_eN, gtD_eN, geD_eN, min2D_eN, max2D_eN, min3D_eN, intD_eN, intD_bl, eqD_bl, neD_bl, lenD_lstN, lenD_tupN, listD_lst, listD_tup, tupleD_lst, tupleD_tup, lstD_0, lstD_1, lstD_2, lstD_3, tupD_0, tupD_1, tupD_2, tupD_3, slRD_lst, slRD_tup, c3]
  have R1 := rolled_ok (a := a) (b := b) (c := c) (h := h) H.le hl (by omega) (by omega)
  have R2 := rolled_ok (a := c) (b := a) (c := b) (h := rollF b h) (fun i j _ _ => rollF_le i j) (bound hc5.2 ha5.2 hb5.2) (by omega) (by omega)
  have R3 := rolled_ok (a := b) (b := c) (c := a) (h := rollF a (rollF b h)) (fun i j _ _ => rollF_le i j) (bound hb5.2 hc5.2 ha5.2) (by omega) (by omega)
  rw [show dT a b (rollF c (rollF a (rollF b h))) = dT a b h from dT_congr fun i j hi hj => roll3 H hi hj] at R3
  have X3 := X c a (rollF b h) hc5.2 ha5.2
  have L6 : law_c6 [scr ns, St0 k4 c4, .und, eN a, eN b, eN c, .und, .und, .und, dT a b h, .und, .und, .und, .und, .und, .und, .und] = some (.lst ((List.range a).map fun i => .tup ((List.range b).map fun j => eN (c - h (a - 1 - i) (b - 1 - j)))), [scr ns, St0 k4 c4, .und, eN a, eN b, eN c, .und, .und, .und, dT a b h, .und, .und, .und, .und, .und, .und, .und]) := by
    refine lc_map (xs := List.range a) (e := eN) (fun i => [scr ns, St0 k4 c4, .und, eN a, eN b, eN c, .und, .und, .und, dT a b h, .und, .und, .und, .und, .und, eN i, .und]) (fun i => .tup ((List.range b).map fun j => eN (c - h (a - 1 - i) (b - 1 - j)))) (rng1_of (by simp only [eN, seqS_ap, contS_nx, contS_rt, contS_bk, contS_ct, nilS_ap, killS_ap, setS_ap, setC_so, dropS_ap, dropC_so, retS_ap, retC_so, retN_ap, bkS_ap, ctS_ap, ifS_ap, ifC_t, ifC_f, forS_ap, forC_so, asgS_ap, asgC_so, seqF_nil, seqF_cons, seqC_so, seqC2_so, odK_f, odK_al, odE_f, odE_al, opF_ap, opC_so, opC2_so, cF_ap, rd_ap, rdC_non, rdC_bl, rdC_int, rdC_str, rdC_tup, rdC_lst, rdC_dct, callF_ap, callC_so, callC2_so, wb_nil, wb_e, wb_k, tstF_ap, tstC_so, notF_ap, notC_so, andF_ap, andC_t, andC_f, orF_ap, orC_t, orC_f, ifF_ap, ifFC_t, ifFC_f, blF_ap, blC_so, andV_ap, andVC_t, andVC_f, orV_ap, orVC_t, orVC_f, notV_ap, notVC_so, truO_ap, truC_bl, truC_int, truC_lst, truC_tup, truC_non, fnF_ap, fnC_rt, fnC_nx, par2_ap, parC_so, parC2_so, par3_ap, par3C_so, par3C2_so, par3C3_so, tgN_ap, tgT2_ap, tgT3_ap, appF_ap, appC0_so, stS_ap, stC_so, stC1_so, yesF_ap, List.set_cons_zero, List.set_cons_succ, List.getElem?_cons_zero, List.getElem?_cons_succ, Option.map_some, Bool.not_true, Bool.not_false, Bool.false_eq_true, if_true, if_false, reduceCtorEq, addD_int, subD_int, ltD_int, leD_int, gtD_int, geD_int, min2D_int, max2D_int, negD_int, intD_int, intD_bl, eqD_int, neD_int, eqD_bl, neD_bl, lenD_lst, lenD_tup, listD_lst, listD_tup, tupleD_lst, tupleD_tup, lstD_0, lstD_1, lstD_2, lstD_3, tupD_0, tupD_1, tupD_2, tupD_3, slRD_lst, slRD_tup]) (by omega)) (fun _ _ => rfl) (fun i hi => ?_) (fun _ _ => rfl) rfl (by rw [List.length_range, sizeLine_eq]; omega)
    have hi' := List.mem_range.mp hi
    have c5 : law_c5 [scr ns, St0 k4 c4, .und, eN a, eN b, eN c, .und, .und, .und, dT a b h, .und, .und, .und, .und, .und, eN i, .und] = some (.lst ((List.range b).map fun j => eN (c - h (a - 1 - i) (b - 1 - j))), [scr ns, St0 k4 c4, .und, eN a, eN b, eN c, .und, .und, .und, dT a b h, .und, .und, .und, .und, .und, eN i, .und]) := by
      refine lc_map (xs := List.range b) (e := eN) (fun j => [scr ns, St0 k4 c4, .und, eN a, eN b, eN c, .und, .und, .und, dT a b h, .und, .und, .und, .und, .und, eN i, eN j]) (fun j => eN (c - h (a - 1 - i) (b - 1 - j))) (rng1_of (by simp only [eN, seqS_ap, contS_nx, contS_rt, contS_bk, contS_ct, nilS_ap, killS_ap, setS_ap, setC_so, dropS_ap, dropC_so, retS_ap, retC_so, retN_ap, bkS_ap, ctS_ap, ifS_ap, ifC_t, ifC_f, forS_ap, forC_so, asgS_ap, asgC_so, seqF_nil, seqF_cons, seqC_so, seqC2_so, odK_f, odK_al, odE_f, odE_al, opF_ap, opC_so, opC2_so, cF_ap, rd_ap, rdC_non, rdC_bl, rdC_int, rdC_str, rdC_tup, rdC_lst, rdC_dct, callF_ap, callC_so, callC2_so, wb_nil, wb_e, wb_k, tstF_ap, tstC_so, notF_ap, notC_so, andF_ap, andC_t, andC_f, orF_ap, orC_t, orC_f, ifF_ap, ifFC_t, ifFC_f, blF_ap, blC_so, andV_ap, andVC_t, andVC_f, orV_ap, orVC_t, orVC_f, notV_ap, notVC_so, truO_ap, truC_bl, truC_int, truC_lst, truC_tup, truC_non, fnF_ap, fnC_rt, fnC_nx, par2_ap, parC_so, parC2_so, par3_ap, par3C_so, par3C2_so, par3C3_so, tgN_ap, tgT2_ap, tgT3_ap, appF_ap, appC0_so, stS_ap, stC_so, stC1_so, yesF_ap, List.set_cons_zero, List.set_cons_succ, List.getElem?_cons_zero, List.getElem?_cons_succ, Option.map_some, Bool.not_true, Bool.not_false, Bool.false_eq_true, if_true, if_false, reduceCtorEq, addD_int, subD_int, ltD_int, leD_int, gtD_int, geD_int, min2D_int, max2D_int, negD_int, intD_int, intD_bl, eqD_int, neD_int, eqD_bl, neD_bl, lenD_lst, lenD_tup, listD_lst, listD_tup, tupleD_lst, tupleD_tup, lstD_0, lstD_1, lstD_2, lstD_3, tupD_0, tupD_1, tupD_2, tupD_3, slRD_lst, slRD_tup]) (by omega)) (fun _ _ => rfl) (fun j hj => ?_) (fun _ _ => rfl) rfl (by rw [List.length_range, sizeLine_eq]; omega)
      have hj' := List.mem_range.mp hj
      have s1 : subD [eN a, eN 1] = some (eN (a - 1)) := subD_eN (by omega)
      have s2 : subD [eN (a - 1), eN i] = some (eN (a - 1 - i)) := subD_eN (by omega)
      have s3 : subD [eN b, eN 1] = some (eN (b - 1)) := subD_eN (by omega)
      have s4 : subD [eN (b - 1), eN j] = some (eN (b - 1 - j)) := subD_eN (by omega)
      have s5 : subD [eN c, eN (h (a - 1 - i) (b - 1 - j))] = some (eN (c - h (a - 1 - i) (b - 1 - j))) := subD_eN (H.le _ _ (by omega) (by omega))
      have x1 : ixD [dT a b h, eN (a - 1 - i)] = some (.tup ((List.range b).map fun j => eN (h (a - 1 - i) j))) := ixD_tup (rget (by omega))
      have x2 : ixD [.tup ((List.range b).map fun j => eN (h (a - 1 - i) j)), eN (b - 1 - j)] = some (eN (h (a - 1 - i) (b - 1 - j))) := ixD_tup (rget (by omega))
      simp only [seqS_ap, contS_nx, contS_rt, contS_bk, contS_ct, nilS_ap, killS_ap, setS_ap, setC_so, dropS_ap, dropC_so, retS_ap, retC_so, retN_ap, bkS_ap, ctS_ap, ifS_ap, ifC_t, ifC_f, forS_ap, forC_so, asgS_ap, asgC_so, seqF_nil, seqF_cons, seqC_so, seqC2_so, odK_f, odK_al, odE_f, odE_al, opF_ap, opC_so, opC2_so, cF_ap, rd_ap, rdC_non, rdC_bl, rdC_int, rdC_str, rdC_tup, rdC_lst, rdC_dct, callF_ap, callC_so, callC2_so, wb_nil, wb_e, wb_k, tstF_ap, tstC_so, notF_ap, notC_so, andF_ap, andC_t, andC_f, orF_ap, orC_t, orC_f, ifF_ap, ifFC_t, ifFC_f, blF_ap, blC_so, andV_ap, andVC_t, andVC_f, orV_ap, orVC_t, orVC_f, notV_ap, notVC_so, truO_ap, truC_bl, truC_int, truC_lst, truC_tup, truC_non, fnF_ap, fnC_rt, fnC_nx, par2_ap, parC_so, parC2_so, par3_ap, par3C_so, par3C2_so, par3C3_so, tgN_ap, tgT2_ap, tgT3_ap, appF_ap, appC0_so, stS_ap, stC_so, stC1_so, yesF_ap, List.set_cons_zero, List.set_cons_succ, List.getElem?_cons_zero, List.getElem?_cons_succ, Option.map_some, Bool.not_true, Bool.not_false, Bool.false_eq_true, if_true, if_false, reduceCtorEq, eN_rd, int_0, int_1, int_2, int_3, addD_eN, eqD_eN, neD_eN, ltD_eN, leD_eN, gtD_eN, geD_eN, min2D_eN, max2D_eN, min3D_eN, intD_eN, intD_bl, eqD_bl, neD_bl, lenD_lstN, lenD_tupN, listD_lst, listD_tup, tupleD_lst, tupleD_tup, lstD_0, lstD_1, lstD_2, lstD_3, tupD_0, tupD_1, tupD_2, tupD_3, slRD_lst, slRD_tup, dT_rd, s1, s2, s3, s4, x1, x2, s5]
    simp only [seqS_ap, contS_nx, contS_rt, contS_bk, contS_ct, nilS_ap, killS_ap, setS_ap, setC_so, dropS_ap, dropC_so, retS_ap, retC_so, retN_ap, bkS_ap, ctS_ap, ifS_ap, ifC_t, ifC_f, forS_ap, forC_so, asgS_ap, asgC_so, seqF_nil, seqF_cons, seqC_so, seqC2_so, odK_f, odK_al, odE_f, odE_al, opF_ap, opC_so, opC2_so, cF_ap, rd_ap, rdC_non, rdC_bl, rdC_int, rdC_str, rdC_tup, rdC_lst, rdC_dct, callF_ap, callC_so, callC2_so, wb_nil, wb_e, wb_k, tstF_ap, tstC_so, notF_ap, notC_so, andF_ap, andC_t, andC_f, orF_ap, orC_t, orC_f, ifF_ap, ifFC_t, ifFC_f, blF_ap, blC_so, andV_ap, andVC_t, andVC_f, orV_ap, orVC_t, orVC_f, notV_ap, notVC_so, truO_ap, truC_bl, truC_int, truC_lst, truC_tup, truC_non, fnF_ap, fnC_rt, fnC_nx, par2_ap, parC_so, parC2_so, par3_ap, par3C_so, par3C2_so, par3C3_so, tgN_ap, tgT2_ap, tgT3_ap, appF_ap, appC0_so, stS_ap, stC_so, stC1_so, yesF_ap, List.set_cons_zero, List.set_cons_succ, List.getElem?_cons_zero, List.getElem?_cons_succ, Option.map_some, Bool.not_true, Bool.not_false, Bool.false_eq_true, if_true, if_false, reduceCtorEq, eN_rd, int_0, int_1, int_2, int_3, addD_eN, eqD_eN, neD_eN, ltD_eN, leD_eN, gtD_eN, geD_eN, min2D_eN, max2D_eN, min3D_eN, intD_eN, intD_bl, eqD_bl, neD_bl, lenD_lstN, lenD_tupN, listD_lst, listD_tup, tupleD_lst, tupleD_tup, lstD_0, lstD_1, lstD_2, lstD_3, tupD_0, tupD_1, tupD_2, tupD_3, slRD_lst, slRD_tup, c5]
  have G1 := filled_ok (a := a) (b := b) (c := c) (h := h) H.le (by omega) (by omega)
  have X4 := X a b (fun i j => c - h (a - 1 - i) (b - 1 - j)) ha5.2 hb5.2
  have V1 := volume_ok (a := a) (b := b) (h := fun i j => c - h (a - 1 - i) (b - 1 - j)) (by omega)
  have V2 := volume_ok (a := a) (b := b) (h := h) (by omega)
  have VF := vol_fill (a := a) (b := b) (c := c) (h := h) H.le
  have M1 : mulD [eN a, eN b] = some (eN (a * b)) := mulD_eN (by omega)
  have hab : a * b ≤ 25 := Nat.mul_le_mul ha5.2 hb5.2
  have M2 : mulD [eN (a * b), eN c] = some (eN (a * b * c)) := mulD_eN (by omega)
  have S1 : subD [eN (a * b * c), eN (volN a b h)] = some (eN (a * b * c - volN a b h)) := subD_eN (by omega)
  have N1 : neD [eN (volN a b fun i j => c - h (a - 1 - i) (b - 1 - j)), eN (a * b * c - volN a b h)] = some (.bl false) := by
    rw [neD_eN, decide_eq_true (by omega)]; rfl
  have T4 : D.tup ((List.range c).map fun i => .tup ((List.range a).map fun j => eN (rollF b h i j))) = dT c a (rollF b h) := rfl
  have T6 : D.tup ((List.range a).map fun i => .tup ((List.range b).map fun j => eN (c - h (a - 1 - i) (b - 1 - j)))) = dT a b (fun i j => c - h (a - 1 - i) (b - 1 - j)) := rfl
  have e1' : F_ulaw_draw [St0 k cc, scr ns, .int 5] = some (.int (v1 : Nat), [St0 k1 c1, scr ns, .int 5]) := e1
  have e2' : F_ulaw_draw [St0 k1 c1, scr ns, .int 5] = some (.int (v2 : Nat), [St0 k2 c2, scr ns, .int 5]) := e2
  have e3'' : F_ulaw_draw [St0 k2 c2, scr ns, .int 5] = some (.int (v3 : Nat), [St0 k3 c3, scr ns, .int 5]) := e3'
  refine ⟨k4, c4, ?_⟩
  rw [turn_N]
  unfold law_b1
  simp only [seqS_ap, contS_nx, contS_rt, contS_bk, contS_ct, nilS_ap, killS_ap, setS_ap, setC_so, dropS_ap, dropC_so, retS_ap, retC_so, retN_ap, bkS_ap, ctS_ap, ifS_ap, ifC_t, ifC_f, forS_ap, forC_so, asgS_ap, asgC_so, seqF_nil, seqF_cons, seqC_so, seqC2_so, odK_f, odK_al, odE_f, odE_al, opF_ap, opC_so, opC2_so, cF_ap, rd_ap, rdC_non, rdC_bl, rdC_int, rdC_str, rdC_tup, rdC_lst, rdC_dct, callF_ap, callC_so, callC2_so, wb_nil, wb_e, wb_k, tstF_ap, tstC_so, notF_ap, notC_so, andF_ap, andC_t, andC_f, orF_ap, orC_t, orC_f, ifF_ap, ifFC_t, ifFC_f, blF_ap, blC_so, andV_ap, andVC_t, andVC_f, orV_ap, orVC_t, orVC_f, notV_ap, notVC_so, truO_ap, truC_bl, truC_int, truC_lst, truC_tup, truC_non, fnF_ap, fnC_rt, fnC_nx, par2_ap, parC_so, parC2_so, par3_ap, par3C_so, par3C2_so, par3C3_so, tgN_ap, tgT2_ap, tgT3_ap, appF_ap, appC0_so, stS_ap, stC_so, stC1_so, yesF_ap, List.set_cons_zero, List.set_cons_succ, List.getElem?_cons_zero, List.getElem?_cons_succ, Option.map_some, Bool.not_true, Bool.not_false, Bool.false_eq_true, if_true, if_false, reduceCtorEq, ltD_int, leD_int, gtD_int, geD_int, max2D_int, negD_int, intD_int, intD_bl, eqD_int, neD_int, eqD_bl, neD_bl, lenD_lst, lenD_tup, listD_lst, listD_tup, tupleD_lst, tupleD_tup, lstD_0, lstD_1, lstD_2, lstD_3, tupD_0, tupD_1, tupD_2, tupD_3, slRD_lst, slRD_tup, eN_rd, dT_rd, e1', e2', e3'', a1, a2, a3, eh, hcub, L1, F1, W1, W2, X1, X2, L4, T4, R1, R2, R3, X3, L6, T6, G1, X4, V1, V2, M1, M2, S1, N1]
abbrev U17 (k c : Int) (ns : List Int) : List D := [scr ns, St0 k c, .und, .und, .und, .und, .und, .und, .und, .und, .und, .und, .und, .und, .und, .und, .und]
theorem l1_ok (ns : List Int) (k c : Int) : ∃ k' c' : Int, L1 (U17 k c ns) = some (.nx (U17 k' c' ns)) := by
  have main := loop_rel (e := eN) (m := tgN 2) (s := law_b1) (σ := Int × Int) (fun q => U17 q.1 q.2 ns) (fun _ _ => True) (List.range 4) (fun pre x post a _ _ => by
    obtain ⟨k', c', e⟩ := turn_ok ns a.1 a.2 (eN x)
    exact ⟨(k', c'), e, trivial⟩) [] (List.range 4) (k, c) rfl trivial
  obtain ⟨⟨k', c'⟩, h, _⟩ := main
  refine ⟨k', c', ?_⟩
  have src : rng1 [odE [] 0 (cF (.int 4))] (U17 k c ns) = some ((List.range 4).map eN, U17 k c ns) := rng1_of (n := 4) rfl (by omega)
  unfold L1
  rw [forS_ap, src, forC_so, h]
theorem cnt_ok {t : N3} (ht : t ∈ boxL) : ∃ p : List Int, p.length ≤ 1000000 ∧ F_ulaw_counts [eN t.1, eN t.2.1, eN t.2.2] = some (dI p, [eN t.1, eN t.2.1, eN t.2.2]) ∧ F_volume_counts [eN t.1, eN t.2.1, eN t.2.2] = some (dI p, [eN t.1, eN t.2.1, eN t.2.2]) := by
  have go : ∀ (a b c : Nat) (p : List Int), a ≤ 1000 → b ≤ 1000 → c ≤ 1000 → decide (p.length ≤ 1000000) = true → F_ulaw_counts [eN a, eN b, eN c] = some (dI p, [eN a, eN b, eN c]) → vcO a b c = some p →
      ∃ p : List Int, p.length ≤ 1000000 ∧ F_ulaw_counts [eN a, eN b, eN c] = some (dI p, [eN a, eN b, eN c]) ∧ F_volume_counts [eN a, eN b, eN c] = some (dI p, [eN a, eN b, eN c]) :=
    fun a b c p ha hb hc hp h1 h2 => ⟨p, of_decide_eq_true hp, h1, volume_counts_ok ha hb hc h2⟩
  unfold boxL at ht
  simp only [List.mem_cons, List.mem_nil_iff, or_false] at ht
  rcases ht with rfl | rfl | rfl | rfl | rfl | rfl | rfl | rfl | rfl | rfl | rfl | rfl
  · exact go _ _ _ _ (by decide) (by decide) (by decide) (by decide) n_1_1_3 v_1_1_3
  · exact go _ _ _ _ (by decide) (by decide) (by decide) (by decide) n_1_3_2 v_1_3_2
  · exact go _ _ _ _ (by decide) (by decide) (by decide) (by decide) n_2_1_4 v_2_1_4
  · exact go _ _ _ _ (by decide) (by decide) (by decide) (by decide) n_2_2_2 v_2_2_2
  · exact go _ _ _ _ (by decide) (by decide) (by decide) (by decide) n_2_2_3 v_2_2_3
  · exact go _ _ _ _ (by decide) (by decide) (by decide) (by decide) n_3_2_2 v_3_2_2
  · exact go _ _ _ _ (by decide) (by decide) (by decide) (by decide) n_2_3_2 v_2_3_2
  · exact go _ _ _ _ (by decide) (by decide) (by decide) (by decide) n_3_3_1 v_3_3_1
  · exact go _ _ _ _ (by decide) (by decide) (by decide) (by decide) n_2_2_4 v_2_2_4
  · exact go _ _ _ _ (by decide) (by decide) (by decide) (by decide) n_3_1_3 v_3_1_3
  · exact go _ _ _ _ (by decide) (by decide) (by decide) (by decide) n_1_4_3 v_1_4_3
  · exact go _ _ _ _ (by decide) (by decide) (by decide) (by decide) n_3_3_2 v_3_3_2
theorem slHD_dI (v : List Int) (m : Nat) : slHD [dI v, eN m] = some (dI (v.take m)) := by
  show some (D.lst (cutD (v.map .int) none (some (m : Int)))) = _
  unfold cutD HT.sIx dI
  dsimp only
  rw [if_neg (by omega), Int.toNat_natCast]
  simp only [List.drop_zero, Nat.sub_zero, List.length_map, List.map_take]
  by_cases h : m ≤ v.length
  · rw [Nat.min_eq_left h]
  · rw [Nat.min_eq_right (by omega), List.take_of_length_le (by simp), List.take_of_length_le (by simp; omega)]
theorem law_true : ∀ ns : List Int, ns.length ≤ 63 → ∃ ρ, F_law [.lst (ns.map D.int)] = some (.bl true, ρ) := by
  intro ns _
  obtain ⟨k1, c1, e1⟩ := l1_ok ns 0 0
  obtain ⟨t, k2, c2, ht, e2⟩ := box_ok ns k1 c1
  obtain ⟨p, hp, e3, e4⟩ := cnt_ok ht
  have X1 : F_ulaw_exact 12 [dI p, dI p] = some (.bl true, [dI p, dI p]) := exact_refl 12 _ (dI_okx hp 10)
  obtain ⟨v1, k3, c3, h1, d1⟩ := drawN ns k2 c2 4 (by omega) (by omega)
  obtain ⟨v2, k4, c4, h2, d2⟩ := drawN ns k3 c3 4 (by omega) (by omega)
  obtain ⟨v3, k5, c5, h3, d3⟩ := drawN ns k4 c4 5 (by omega) (by omega)
  have a1 : addD [.int 1, .int (v1 : Nat)] = some (eN (1 + v1)) := addD_eN 1 v1
  have a2 : addD [.int 1, .int (v2 : Nat)] = some (eN (1 + v2)) := addD_eN 1 v2
  have a3 : addD [.int 1, .int (v3 : Nat)] = some (eN (1 + v3)) := addD_eN 1 v3
  generalize ha : 1 + v1 = a at a1
  generalize hb : 1 + v2 = b at a2
  generalize hc : 1 + v3 = c at a3
  obtain ⟨v, C⟩ := chk_all (a := a) (b := b) (c := c) (by omega) (by omega) (by omega) (by omega) (by omega) (by omega)
  have hab : a * b ≤ 16 := Nat.mul_le_mul (show a ≤ 4 by omega) (show b ≤ 4 by omega)
  have habc : a * b * c ≤ 80 := Nat.mul_le_mul hab (show c ≤ 5 by omega)
  have hv : v.length ≤ 1000000 := by rw [C.len]; omega
  have f1 := volume_counts_ok (a := a) (b := b) (c := c) (by omega) (by omega) (by omega) C.v1
  have f2 := volume_counts_ok (a := c) (b := a) (c := b) (by omega) (by omega) (by omega) C.v2
  have r1 : slRD [dI v] = some (dI v) := by
    show some (D.lst (v.map .int).reverse) = _
    rw [← List.map_reverse, C.rev]; rfl
  have n1 : neD [dI v, dI v] = some (.bl false) := neD_ok (dI_okx hv 0) (by omega)
  have l1 : lenD [dI v] = some (eN (a * b * c + 1)) := by
    show some (D.int ((v.map D.int).length : Nat)) = _
    rw [List.length_map, C.len]; rfl
  have m1 : mulD [eN a, eN b] = some (eN (a * b)) := mulD_eN (by omega)
  have m2 : mulD [eN (a * b), eN c] = some (eN (a * b * c)) := mulD_eN (by omega)
  have p1 : ∀ n : Nat, addD [eN n, .int 1] = some (eN (n + 1)) := fun n => addD_eN n 1
  have n2 : ∀ n : Nat, neD [eN n, eN n] = some (.bl false) := fun n => by rw [neD_eN, decide_eq_true rfl]; rfl
  have X2 : F_ulaw_exact 12 [dI anyL, dI anyL] = some (.bl true, [dI anyL, dI anyL]) := exact_refl 12 _ (dI_okx (by decide) 10)
  have q1 : eqD [dI (v.take (min a (min b c) + 1)), dI (anyL.take (min a (min b c) + 1))] = some (.bl true) := by
    rw [C.low]
    exact eqD_ok (dI_okx (by rw [List.length_take]; have : anyL.length = 31 := rfl; omega) 0) (by omega)
  have d1' : F_ulaw_draw [St0 k2 c2, scr ns, .int 4] = some (.int (v1 : Nat), [St0 k3 c3, scr ns, .int 4]) := d1
  have d2' : F_ulaw_draw [St0 k3 c3, scr ns, .int 4] = some (.int (v2 : Nat), [St0 k4 c4, scr ns, .int 4]) := d2
  have d3' : F_ulaw_draw [St0 k4 c4, scr ns, .int 5] = some (.int (v3 : Nat), [St0 k5 c5, scr ns, .int 5]) := d3
  refine ⟨_, fn_of (ρ0 := [scr ns, .und, .und, .und, .und, .und, .und, .und, .und, .und, .und, .und, .und, .und, .und, .und, .und]) rfl (r := [scr ns, .und, .und, .und, .und, .und, dI v, eN (min a (min b c)), dI anyL, .und, .und, .und, .und, .und, .und, .und, .und]) ?_⟩
  have s0 : L0 [scr ns, .und, .und, .und, .und, .und, .und, .und, .und, .und, .und, .und, .und, .und, .und, .und, .und] = some (.nx (U17 0 0 ns)) := by
    unfold L0; simp only [seqS_ap, contS_nx, contS_rt, contS_bk, contS_ct, nilS_ap, killS_ap, setS_ap, setC_so, dropS_ap, dropC_so, retS_ap, retC_so, retN_ap, bkS_ap, ctS_ap, ifS_ap, ifC_t, ifC_f, forS_ap, forC_so, asgS_ap, asgC_so, seqF_nil, seqF_cons, seqC_so, seqC2_so, odK_f, odK_al, odE_f, odE_al, opF_ap, opC_so, opC2_so, cF_ap, rd_ap, rdC_non, rdC_bl, rdC_int, rdC_str, rdC_tup, rdC_lst, rdC_dct, callF_ap, callC_so, callC2_so, wb_nil, wb_e, wb_k, tstF_ap, tstC_so, notF_ap, notC_so, andF_ap, andC_t, andC_f, orF_ap, orC_t, orC_f, ifF_ap, ifFC_t, ifFC_f, blF_ap, blC_so, andV_ap, andVC_t, andVC_f, orV_ap, orVC_t, orVC_f, notV_ap, notVC_so, truO_ap, truC_bl, truC_int, truC_lst, truC_tup, truC_non, fnF_ap, fnC_rt, fnC_nx, par2_ap, parC_so, parC2_so, par3_ap, par3C_so, par3C2_so, par3C3_so, tgN_ap, tgT2_ap, tgT3_ap, appF_ap, appC0_so, stS_ap, stC_so, stC1_so, yesF_ap, List.set_cons_zero, List.set_cons_succ, List.getElem?_cons_zero, List.getElem?_cons_succ, Option.map_some, Bool.not_true, Bool.not_false, Bool.false_eq_true, if_true, if_false, reduceCtorEq, addD_int, subD_int, ltD_int, leD_int, gtD_int, geD_int, min2D_int, max2D_int, negD_int, intD_int, intD_bl, eqD_int, neD_int, eqD_bl, neD_bl, lenD_lst, lenD_tup, listD_lst, listD_tup, tupleD_lst, tupleD_tup, lstD_0, lstD_1, lstD_2, lstD_3, tupD_0, tupD_1, tupD_2, tupD_3, slRD_lst, slRD_tup]
  have s2 : L2 (U17 k1 c1 ns) = some (.nx [scr ns, St0 k2 c2, .und, eN t.1, eN t.2.1, eN t.2.2, .und, .und, .und, .und, .und, .und, .und, .und, .und, .und, .und]) := by
    unfold L2; simp only [seqS_ap, contS_nx, contS_rt, contS_bk, contS_ct, nilS_ap, killS_ap, setS_ap, setC_so, dropS_ap, dropC_so, retS_ap, retC_so, retN_ap, bkS_ap, ctS_ap, ifS_ap, ifC_t, ifC_f, forS_ap, forC_so, asgS_ap, asgC_so, seqF_nil, seqF_cons, seqC_so, seqC2_so, odK_f, odK_al, odE_f, odE_al, opF_ap, opC_so, opC2_so, cF_ap, rd_ap, rdC_non, rdC_bl, rdC_int, rdC_str, rdC_tup, rdC_lst, rdC_dct, callF_ap, callC_so, callC2_so, wb_nil, wb_e, wb_k, tstF_ap, tstC_so, notF_ap, notC_so, andF_ap, andC_t, andC_f, orF_ap, orC_t, orC_f, ifF_ap, ifFC_t, ifFC_f, blF_ap, blC_so, andV_ap, andVC_t, andVC_f, orV_ap, orVC_t, orVC_f, notV_ap, notVC_so, truO_ap, truC_bl, truC_int, truC_lst, truC_tup, truC_non, fnF_ap, fnC_rt, fnC_nx, par2_ap, parC_so, parC2_so, par3_ap, par3C_so, par3C2_so, par3C3_so, tgN_ap, tgT2_ap, tgT3_ap, appF_ap, appC0_so, stS_ap, stC_so, stC1_so, yesF_ap, List.set_cons_zero, List.set_cons_succ, List.getElem?_cons_zero, List.getElem?_cons_succ, Option.map_some, Bool.not_true, Bool.not_false, Bool.false_eq_true, if_true, if_false, reduceCtorEq, addD_int, subD_int, ltD_int, leD_int, gtD_int, geD_int, min2D_int, max2D_int, negD_int, intD_int, intD_bl, eqD_int, neD_int, eqD_bl, neD_bl, lenD_lst, lenD_tup, listD_lst, listD_tup, tupleD_lst, tupleD_tup, lstD_0, lstD_1, lstD_2, lstD_3, tupD_0, tupD_1, tupD_2, tupD_3, slRD_lst, slRD_tup, e2, e3, VS.e3]
  have s3 : ∀ d1 : D, L3 [scr ns, d1, .und, eN t.1, eN t.2.1, eN t.2.2, .und, .und, .und, .und, .und, .und, .und, .und, .und, .und, .und] = some (.nx [scr ns, d1, .und, eN t.1, eN t.2.1, eN t.2.2, .und, .und, .und, .und, .und, .und, .und, .und, .und, .und, .und]) := fun d1 => by
    unfold L3; simp only [seqS_ap, contS_nx, contS_rt, contS_bk, contS_ct, nilS_ap, killS_ap, setS_ap, setC_so, dropS_ap, dropC_so, retS_ap, retC_so, retN_ap, bkS_ap, ctS_ap, ifS_ap, ifC_t, ifC_f, forS_ap, forC_so, asgS_ap, asgC_so, seqF_nil, seqF_cons, seqC_so, seqC2_so, odK_f, odK_al, odE_f, odE_al, opF_ap, opC_so, opC2_so, cF_ap, rd_ap, rdC_non, rdC_bl, rdC_int, rdC_str, rdC_tup, rdC_lst, rdC_dct, callF_ap, callC_so, callC2_so, wb_nil, wb_e, wb_k, tstF_ap, tstC_so, notF_ap, notC_so, andF_ap, andC_t, andC_f, orF_ap, orC_t, orC_f, ifF_ap, ifFC_t, ifFC_f, blF_ap, blC_so, andV_ap, andVC_t, andVC_f, orV_ap, orVC_t, orVC_f, notV_ap, notVC_so, truO_ap, truC_bl, truC_int, truC_lst, truC_tup, truC_non, fnF_ap, fnC_rt, fnC_nx, par2_ap, parC_so, parC2_so, par3_ap, par3C_so, par3C2_so, par3C3_so, tgN_ap, tgT2_ap, tgT3_ap, appF_ap, appC0_so, stS_ap, stC_so, stC1_so, yesF_ap, List.set_cons_zero, List.set_cons_succ, List.getElem?_cons_zero, List.getElem?_cons_succ, Option.map_some, Bool.not_true, Bool.not_false, Bool.false_eq_true, if_true, if_false, reduceCtorEq, addD_int, subD_int, ltD_int, leD_int, gtD_int, geD_int, min2D_int, max2D_int, negD_int, intD_int, intD_bl, eqD_int, neD_int, eqD_bl, neD_bl, lenD_lst, lenD_tup, listD_lst, listD_tup, tupleD_lst, tupleD_tup, lstD_0, lstD_1, lstD_2, lstD_3, tupD_0, tupD_1, tupD_2, tupD_3, slRD_lst, slRD_tup, eN_rd, e3, e4, X1]
  have s4 : L4 (U17 k2 c2 ns) = some (.nx [scr ns, St0 k5 c5, .und, eN a, eN b, eN c, .und, .und, .und, .und, .und, .und, .und, .und, .und, .und, .und]) := by
    unfold L4; simp only [seqS_ap, contS_nx, contS_rt, contS_bk, contS_ct, nilS_ap, killS_ap, setS_ap, setC_so, dropS_ap, dropC_so, retS_ap, retC_so, retN_ap, bkS_ap, ctS_ap, ifS_ap, ifC_t, ifC_f, forS_ap, forC_so, asgS_ap, asgC_so, seqF_nil, seqF_cons, seqC_so, seqC2_so, odK_f, odK_al, odE_f, odE_al, opF_ap, opC_so, opC2_so, cF_ap, rd_ap, rdC_non, rdC_bl, rdC_int, rdC_str, rdC_tup, rdC_lst, rdC_dct, callF_ap, callC_so, callC2_so, wb_nil, wb_e, wb_k, tstF_ap, tstC_so, notF_ap, notC_so, andF_ap, andC_t, andC_f, orF_ap, orC_t, orC_f, ifF_ap, ifFC_t, ifFC_f, blF_ap, blC_so, andV_ap, andVC_t, andVC_f, orV_ap, orVC_t, orVC_f, notV_ap, notVC_so, truO_ap, truC_bl, truC_int, truC_lst, truC_tup, truC_non, fnF_ap, fnC_rt, fnC_nx, par2_ap, parC_so, parC2_so, par3_ap, par3C_so, par3C2_so, par3C3_so, tgN_ap, tgT2_ap, tgT3_ap, appF_ap, appC0_so, stS_ap, stC_so, stC1_so, yesF_ap, List.set_cons_zero, List.set_cons_succ, List.getElem?_cons_zero, List.getElem?_cons_succ, Option.map_some, Bool.not_true, Bool.not_false, Bool.false_eq_true, if_true, if_false, reduceCtorEq, ltD_int, leD_int, gtD_int, geD_int, max2D_int, negD_int, intD_int, intD_bl, eqD_int, neD_int, eqD_bl, neD_bl, lenD_lst, lenD_tup, listD_lst, listD_tup, tupleD_lst, tupleD_tup, lstD_0, lstD_1, lstD_2, lstD_3, tupD_0, tupD_1, tupD_2, tupD_3, slRD_lst, slRD_tup, eN_rd, d1', d2', d3', a1, a2, a3]
  have s5 : L5 [scr ns, .und, .und, eN a, eN b, eN c, .und, .und, .und, .und, .und, .und, .und, .und, .und, .und, .und] = some (.nx [scr ns, .und, .und, eN a, eN b, eN c, dI v, .und, .und, .und, .und, .und, .und, .und, .und, .und, .und]) := by
    unfold L5; simp only [seqS_ap, contS_nx, contS_rt, contS_bk, contS_ct, nilS_ap, killS_ap, setS_ap, setC_so, dropS_ap, dropC_so, retS_ap, retC_so, retN_ap, bkS_ap, ctS_ap, ifS_ap, ifC_t, ifC_f, forS_ap, forC_so, asgS_ap, asgC_so, seqF_nil, seqF_cons, seqC_so, seqC2_so, odK_f, odK_al, odE_f, odE_al, opF_ap, opC_so, opC2_so, cF_ap, rd_ap, rdC_non, rdC_bl, rdC_int, rdC_str, rdC_tup, rdC_lst, rdC_dct, callF_ap, callC_so, callC2_so, wb_nil, wb_e, wb_k, tstF_ap, tstC_so, notF_ap, notC_so, andF_ap, andC_t, andC_f, orF_ap, orC_t, orC_f, ifF_ap, ifFC_t, ifFC_f, blF_ap, blC_so, andV_ap, andVC_t, andVC_f, orV_ap, orVC_t, orVC_f, notV_ap, notVC_so, truO_ap, truC_bl, truC_int, truC_lst, truC_tup, truC_non, fnF_ap, fnC_rt, fnC_nx, par2_ap, parC_so, parC2_so, par3_ap, par3C_so, par3C2_so, par3C3_so, tgN_ap, tgT2_ap, tgT3_ap, appF_ap, appC0_so, stS_ap, stC_so, stC1_so, yesF_ap, List.set_cons_zero, List.set_cons_succ, List.getElem?_cons_zero, List.getElem?_cons_succ, Option.map_some, Bool.not_true, Bool.not_false, Bool.false_eq_true, if_true, if_false, reduceCtorEq, addD_int, subD_int, ltD_int, leD_int, gtD_int, geD_int, min2D_int, max2D_int, negD_int, intD_int, intD_bl, eqD_int, neD_int, eqD_bl, neD_bl, lenD_lst, lenD_tup, listD_lst, listD_tup, tupleD_lst, tupleD_tup, lstD_0, lstD_1, lstD_2, lstD_3, tupD_0, tupD_1, tupD_2, tupD_3, slRD_lst, slRD_tup, eN_rd, f1]
  have s6 : L6 [scr ns, .und, .und, eN a, eN b, eN c, dI v, .und, .und, .und, .und, .und, .und, .und, .und, .und, .und] = some (.nx [scr ns, .und, .und, eN a, eN b, eN c, dI v, .und, .und, .und, .und, .und, .und, .und, .und, .und, .und]) := by
    unfold L6; simp only [seqS_ap, contS_nx, contS_rt, contS_bk, contS_ct, nilS_ap, killS_ap, setS_ap, setC_so, dropS_ap, dropC_so, retS_ap, retC_so, retN_ap, bkS_ap, ctS_ap, ifS_ap, ifC_t, ifC_f, forS_ap, forC_so, asgS_ap, asgC_so, seqF_nil, seqF_cons, seqC_so, seqC2_so, odK_f, odK_al, odE_f, odE_al, opF_ap, opC_so, opC2_so, cF_ap, rd_ap, rdC_non, rdC_bl, rdC_int, rdC_str, rdC_tup, rdC_lst, rdC_dct, callF_ap, callC_so, callC2_so, wb_nil, wb_e, wb_k, tstF_ap, tstC_so, notF_ap, notC_so, andF_ap, andC_t, andC_f, orF_ap, orC_t, orC_f, ifF_ap, ifFC_t, ifFC_f, blF_ap, blC_so, andV_ap, andVC_t, andVC_f, orV_ap, orVC_t, orVC_f, notV_ap, notVC_so, truO_ap, truC_bl, truC_int, truC_lst, truC_tup, truC_non, fnF_ap, fnC_rt, fnC_nx, par2_ap, parC_so, parC2_so, par3_ap, par3C_so, par3C2_so, par3C3_so, tgN_ap, tgT2_ap, tgT3_ap, appF_ap, appC0_so, stS_ap, stC_so, stC1_so, yesF_ap, List.set_cons_zero, List.set_cons_succ, List.getElem?_cons_zero, List.getElem?_cons_succ, Option.map_some, Bool.not_true, Bool.not_false, Bool.false_eq_true, if_true, if_false, reduceCtorEq, ltD_int, leD_int, gtD_int, geD_int, max2D_int, negD_int, intD_int, intD_bl, eqD_int, neD_int, eqD_bl, neD_bl, lenD_lst, lenD_tup, listD_lst, listD_tup, tupleD_lst, tupleD_tup, lstD_0, lstD_1, lstD_2, lstD_3, tupD_0, tupD_1, tupD_2, tupD_3, slRD_lst, slRD_tup, eN_rd, dI_rd, r1, n1, l1, m1, m2, p1, n2, f2]
  have s7 : L7 [scr ns, .und, .und, eN a, eN b, eN c, dI v, .und, .und, .und, .und, .und, .und, .und, .und, .und, .und] = some (.nx [scr ns, .und, .und, eN a, eN b, eN c, dI v, eN (min a (min b c)), .und, .und, .und, .und, .und, .und, .und, .und, .und]) := by
    unfold L7; simp only [seqS_ap, contS_nx, contS_rt, contS_bk, contS_ct, nilS_ap, killS_ap, setS_ap, setC_so, dropS_ap, dropC_so, retS_ap, retC_so, retN_ap, bkS_ap, ctS_ap, ifS_ap, ifC_t, ifC_f, forS_ap, forC_so, asgS_ap, asgC_so, seqF_nil, seqF_cons, seqC_so, seqC2_so, odK_f, odK_al, odE_f, odE_al, opF_ap, opC_so, opC2_so, cF_ap, rd_ap, rdC_non, rdC_bl, rdC_int, rdC_str, rdC_tup, rdC_lst, rdC_dct, callF_ap, callC_so, callC2_so, wb_nil, wb_e, wb_k, tstF_ap, tstC_so, notF_ap, notC_so, andF_ap, andC_t, andC_f, orF_ap, orC_t, orC_f, ifF_ap, ifFC_t, ifFC_f, blF_ap, blC_so, andV_ap, andVC_t, andVC_f, orV_ap, orVC_t, orVC_f, notV_ap, notVC_so, truO_ap, truC_bl, truC_int, truC_lst, truC_tup, truC_non, fnF_ap, fnC_rt, fnC_nx, par2_ap, parC_so, parC2_so, par3_ap, par3C_so, par3C2_so, par3C3_so, tgN_ap, tgT2_ap, tgT3_ap, appF_ap, appC0_so, stS_ap, stC_so, stC1_so, yesF_ap, List.set_cons_zero, List.set_cons_succ, List.getElem?_cons_zero, List.getElem?_cons_succ, Option.map_some, Bool.not_true, Bool.not_false, Bool.false_eq_true, if_true, if_false, reduceCtorEq, addD_int, subD_int, ltD_int, leD_int, gtD_int, geD_int, min2D_int, max2D_int, negD_int, intD_int, intD_bl, eqD_int, neD_int, eqD_bl, neD_bl, lenD_lst, lenD_tup, listD_lst, listD_tup, tupleD_lst, tupleD_tup, lstD_0, lstD_1, lstD_2, lstD_3, tupD_0, tupD_1, tupD_2, tupD_3, slRD_lst, slRD_tup, eN_rd, dI_rd, min3D_eN]
  have s8 : L8 [scr ns, .und, .und, .und, .und, .und, dI v, eN (min a (min b c)), .und, .und, .und, .und, .und, .und, .und, .und, .und] = some (.nx [scr ns, .und, .und, .und, .und, .und, dI v, eN (min a (min b c)), dI anyL, .und, .und, .und, .und, .und, .und, .und, .und]) := by
    unfold L8; simp only [seqS_ap, contS_nx, contS_rt, contS_bk, contS_ct, nilS_ap, killS_ap, setS_ap, setC_so, dropS_ap, dropC_so, retS_ap, retC_so, retN_ap, bkS_ap, ctS_ap, ifS_ap, ifC_t, ifC_f, forS_ap, forC_so, asgS_ap, asgC_so, seqF_nil, seqF_cons, seqC_so, seqC2_so, odK_f, odK_al, odE_f, odE_al, opF_ap, opC_so, opC2_so, cF_ap, rd_ap, rdC_non, rdC_bl, rdC_int, rdC_str, rdC_tup, rdC_lst, rdC_dct, callF_ap, callC_so, callC2_so, wb_nil, wb_e, wb_k, tstF_ap, tstC_so, notF_ap, notC_so, andF_ap, andC_t, andC_f, orF_ap, orC_t, orC_f, ifF_ap, ifFC_t, ifFC_f, blF_ap, blC_so, andV_ap, andVC_t, andVC_f, orV_ap, orVC_t, orVC_f, notV_ap, notVC_so, truO_ap, truC_bl, truC_int, truC_lst, truC_tup, truC_non, fnF_ap, fnC_rt, fnC_nx, par2_ap, parC_so, parC2_so, par3_ap, par3C_so, par3C2_so, par3C3_so, tgN_ap, tgT2_ap, tgT3_ap, appF_ap, appC0_so, stS_ap, stC_so, stC1_so, yesF_ap, List.set_cons_zero, List.set_cons_succ, List.getElem?_cons_zero, List.getElem?_cons_succ, Option.map_some, Bool.not_true, Bool.not_false, Bool.false_eq_true, if_true, if_false, reduceCtorEq, addD_int, subD_int, ltD_int, leD_int, gtD_int, geD_int, min2D_int, max2D_int, negD_int, intD_int, intD_bl, eqD_int, neD_int, eqD_bl, neD_bl, lenD_lst, lenD_tup, listD_lst, listD_tup, tupleD_lst, tupleD_tup, lstD_0, lstD_1, lstD_2, lstD_3, tupD_0, tupD_1, tupD_2, tupD_3, slRD_lst, slRD_tup, eN_rd, dI_rd, any_ok]
  have s9 : L9 [scr ns, .und, .und, .und, .und, .und, dI v, eN (min a (min b c)), dI anyL, .und, .und, .und, .und, .und, .und, .und, .und] = some (.rt (.bl true) [scr ns, .und, .und, .und, .und, .und, dI v, eN (min a (min b c)), dI anyL, .und, .und, .und, .und, .und, .und, .und, .und]) := by
    unfold L9; simp only [seqS_ap, contS_nx, contS_rt, contS_bk, contS_ct, nilS_ap, killS_ap, setS_ap, setC_so, dropS_ap, dropC_so, retS_ap, retC_so, retN_ap, bkS_ap, ctS_ap, ifS_ap, ifC_t, ifC_f, forS_ap, forC_so, asgS_ap, asgC_so, seqF_nil, seqF_cons, seqC_so, seqC2_so, odK_f, odK_al, odE_f, odE_al, opF_ap, opC_so, opC2_so, cF_ap, rd_ap, rdC_non, rdC_bl, rdC_int, rdC_str, rdC_tup, rdC_lst, rdC_dct, callF_ap, callC_so, callC2_so, wb_nil, wb_e, wb_k, tstF_ap, tstC_so, notF_ap, notC_so, andF_ap, andC_t, andC_f, orF_ap, orC_t, orC_f, ifF_ap, ifFC_t, ifFC_f, blF_ap, blC_so, andV_ap, andVC_t, andVC_f, orV_ap, orVC_t, orVC_f, notV_ap, notVC_so, truO_ap, truC_bl, truC_int, truC_lst, truC_tup, truC_non, fnF_ap, fnC_rt, fnC_nx, par2_ap, parC_so, parC2_so, par3_ap, par3C_so, par3C2_so, par3C3_so, tgN_ap, tgT2_ap, tgT3_ap, appF_ap, appC0_so, stS_ap, stC_so, stC1_so, yesF_ap, List.set_cons_zero, List.set_cons_succ, List.getElem?_cons_zero, List.getElem?_cons_succ, Option.map_some, Bool.not_true, Bool.not_false, Bool.false_eq_true, if_true, if_false, reduceCtorEq, ltD_int, leD_int, gtD_int, geD_int, max2D_int, negD_int, intD_int, intD_bl, eqD_int, neD_int, eqD_bl, neD_bl, lenD_lst, lenD_tup, listD_lst, listD_tup, tupleD_lst, tupleD_tup, lstD_0, lstD_1, lstD_2, lstD_3, tupD_0, tupD_1, tupD_2, tupD_3, slRD_lst, slRD_tup, eN_rd, dI_rd, all_ok, X2, p1, slHD_dI, q1]
  unfold S_law
  rw [seqS_ap, s0, contS_nx, seqS_ap, e1, contS_nx, seqS_ap, s2, contS_nx, seqS_ap, s3, contS_nx, killS_ap, killS_ap, killS_ap]
  simp only [List.set_cons_zero, List.set_cons_succ]
  rw [seqS_ap, s4, contS_nx, killS_ap]
  simp only [List.set_cons_zero, List.set_cons_succ]
  rw [seqS_ap, s5, contS_nx, seqS_ap, s6, contS_nx, seqS_ap, s7, contS_nx, killS_ap, killS_ap, killS_ap]
  simp only [List.set_cons_zero, List.set_cons_succ]
  rw [seqS_ap, s8, contS_nx, seqS_ap, s9, contS_rt]

def spLaw (K : PySem.W.Frag) : Sp := fun vs H Q _ => ∃ (a : Addr) (ns : List Int), vs = [.ref a] ∧ SqL K H a (ns.map V.int) ∧ ns.length ≤ 63 ∧ ∀ H', Q (.bl true) H'
theorem sp_law {K : PySem.W.Frag} {P : Program} {w : World} (T : ∀ ns : List Int, ns.length ≤ 63 → ∃ ρ, F_law [.lst (ns.map D.int)] = some (.bl true, ρ)) : ∀ vs H Q E, spLaw K vs H Q E → spD ⟨K, P, w⟩ [] [0] 0 F_law vs H Q E := sp_of T
theorem all_mk (T : ∀ ns : List Int, ns.length ≤ 63 → ∃ ρ, F_law [.lst (ns.map D.int)] = some (.bl true, ρ)) {l : PySem.W.OpenLaw} {w : World} {K : PySem.W.Frag} {h : Heap} {mg : Str → Option Value} {fa : Addr} (X : K.In h) (G : h.Ns mainGlobals mg) (hfa : mg "law" = some (.ref fa)) {a_cubes : Addr} {oc_cubes : Value} {od_cubes : Option Addr} {sl_cubes : Array (Option Value)} {kV_cubes dc_cubes pm_cubes cd_cubes ct_cubes : Value} {an_cubes : Option Addr} {a_from_cubes : Addr} {oc_from_cubes : Value} {od_from_cubes : Option Addr} {sl_from_cubes : Array (Option Value)} {kV_from_cubes dc_from_cubes pm_from_cubes cd_from_cubes ct_from_cubes : Value} {an_from_cubes : Option Addr} {a_moved : Addr} {oc_moved : Value} {od_moved : Option Addr} {sl_moved : Array (Option Value)} {kV_moved dc_moved pm_moved cd_moved ct_moved : Value} {an_moved : Option Addr} {a_swapped : Addr} {oc_swapped : Value} {od_swapped : Option Addr} {sl_swapped : Array (Option Value)} {kV_swapped dc_swapped pm_swapped cd_swapped ct_swapped : Value} {an_swapped : Option Addr} {a_rolled : Addr} {oc_rolled : Value} {od_rolled : Option Addr} {sl_rolled : Array (Option Value)} {kV_rolled dc_rolled pm_rolled cd_rolled ct_rolled : Value} {an_rolled : Option Addr} {a_filled_up : Addr} {oc_filled_up : Value} {od_filled_up : Option Addr} {sl_filled_up : Array (Option Value)} {kV_filled_up dc_filled_up pm_filled_up cd_filled_up ct_filled_up : Value} {an_filled_up : Option Addr} {a_volume : Addr} {oc_volume : Value} {od_volume : Option Addr} {sl_volume : Array (Option Value)} {kV_volume dc_volume pm_volume cd_volume ct_volume : Value} {an_volume : Option Addr} {a_times_less : Addr} {oc_times_less : Value} {od_times_less : Option Addr} {sl_times_less : Array (Option Value)} {kV_times_less dc_times_less pm_times_less cd_times_less ct_times_less : Value} {an_times_less : Option Addr} {a_by_less : Addr} {oc_by_less : Value} {od_by_less : Option Addr} {sl_by_less : Array (Option Value)} {kV_by_less dc_by_less pm_by_less cd_by_less ct_by_less : Value} {an_by_less : Option Addr} {a_volume_counts : Addr} {oc_volume_counts : Value} {od_volume_counts : Option Addr} {sl_volume_counts : Array (Option Value)} {kV_volume_counts dc_volume_counts pm_volume_counts cd_volume_counts ct_volume_counts : Value} {an_volume_counts : Option Addr} {a_all_counts : Addr} {oc_all_counts : Value} {od_all_counts : Option Addr} {sl_all_counts : Array (Option Value)} {kV_all_counts dc_all_counts pm_all_counts cd_all_counts ct_all_counts : Value} {an_all_counts : Option Addr} {a_ulaw_refill : Addr} {oc_ulaw_refill : Value} {od_ulaw_refill : Option Addr} {sl_ulaw_refill : Array (Option Value)} {kV_ulaw_refill dc_ulaw_refill pm_ulaw_refill cd_ulaw_refill ct_ulaw_refill : Value} {an_ulaw_refill : Option Addr} {a_ulaw_draw : Addr} {oc_ulaw_draw : Value} {od_ulaw_draw : Option Addr} {sl_ulaw_draw : Array (Option Value)} {kV_ulaw_draw dc_ulaw_draw pm_ulaw_draw cd_ulaw_draw ct_ulaw_draw : Value} {an_ulaw_draw : Option Addr} {a_ulaw_exact : Addr} {oc_ulaw_exact : Value} {od_ulaw_exact : Option Addr} {sl_ulaw_exact : Array (Option Value)} {kV_ulaw_exact dc_ulaw_exact pm_ulaw_exact cd_ulaw_exact ct_ulaw_exact : Value} {an_ulaw_exact : Option Addr} {a_ulaw_flat : Addr} {oc_ulaw_flat : Value} {od_ulaw_flat : Option Addr} {sl_ulaw_flat : Array (Option Value)} {kV_ulaw_flat dc_ulaw_flat pm_ulaw_flat cd_ulaw_flat ct_ulaw_flat : Value} {an_ulaw_flat : Option Addr} {a_ulaw_heaps : Addr} {oc_ulaw_heaps : Value} {od_ulaw_heaps : Option Addr} {sl_ulaw_heaps : Array (Option Value)} {kV_ulaw_heaps dc_ulaw_heaps pm_ulaw_heaps cd_ulaw_heaps ct_ulaw_heaps : Value} {an_ulaw_heaps : Option Addr} {a_ulaw_box : Addr} {oc_ulaw_box : Value} {od_ulaw_box : Option Addr} {sl_ulaw_box : Array (Option Value)} {kV_ulaw_box dc_ulaw_box pm_ulaw_box cd_ulaw_box ct_ulaw_box : Value} {an_ulaw_box : Option Addr} {a_ulaw_heap : Addr} {oc_ulaw_heap : Value} {od_ulaw_heap : Option Addr} {sl_ulaw_heap : Array (Option Value)} {kV_ulaw_heap dc_ulaw_heap pm_ulaw_heap cd_ulaw_heap ct_ulaw_heap : Value} {an_ulaw_heap : Option Addr} {a_ulaw_counts : Addr} {oc_ulaw_counts : Value} {od_ulaw_counts : Option Addr} {sl_ulaw_counts : Array (Option Value)} {kV_ulaw_counts dc_ulaw_counts pm_ulaw_counts cd_ulaw_counts ct_ulaw_counts : Value} {an_ulaw_counts : Option Addr} {a_ulaw_any : Addr} {oc_ulaw_any : Value} {od_ulaw_any : Option Addr} {sl_ulaw_any : Array (Option Value)} {kV_ulaw_any dc_ulaw_any pm_ulaw_any cd_ulaw_any ct_ulaw_any : Value} {an_ulaw_any : Option Addr} {a_law : Addr} {oc_law : Value} {od_law : Option Addr} {sl_law : Array (Option Value)} {kV_law dc_law pm_law cd_law ct_law : Value} {an_law : Option Addr} (x_cubes : PySem.W.nsIn K mainGlobals "cubes" = some (some (.ref a_cubes))) (l_cubes : K.lookup a_cubes = some ⟨oc_cubes, od_cubes, .func (PySem.W.fnOf "cubes" "cubes" (defArgs s_cubes) (defBody s_cubes) (defScope s_cubes) .none kV_cubes dc_cubes pm_cubes an_cubes cd_cubes ct_cubes), sl_cubes⟩) (c_cubes : PySem.W.codeIn K cd_cubes "cubes" = true) (k_cubes : PySem.W.keepIn K (.ref a_cubes) = true) (x_from_cubes : PySem.W.nsIn K mainGlobals "from_cubes" = some (some (.ref a_from_cubes))) (l_from_cubes : K.lookup a_from_cubes = some ⟨oc_from_cubes, od_from_cubes, .func (PySem.W.fnOf "from_cubes" "from_cubes" (defArgs s_from_cubes) (defBody s_from_cubes) (defScope s_from_cubes) .none kV_from_cubes dc_from_cubes pm_from_cubes an_from_cubes cd_from_cubes ct_from_cubes), sl_from_cubes⟩) (c_from_cubes : PySem.W.codeIn K cd_from_cubes "from_cubes" = true) (k_from_cubes : PySem.W.keepIn K (.ref a_from_cubes) = true) (x_moved : PySem.W.nsIn K mainGlobals "moved" = some (some (.ref a_moved))) (l_moved : K.lookup a_moved = some ⟨oc_moved, od_moved, .func (PySem.W.fnOf "moved" "moved" (defArgs s_moved) (defBody s_moved) (defScope s_moved) .none kV_moved dc_moved pm_moved an_moved cd_moved ct_moved), sl_moved⟩) (c_moved : PySem.W.codeIn K cd_moved "moved" = true) (k_moved : PySem.W.keepIn K (.ref a_moved) = true) (x_swapped : PySem.W.nsIn K mainGlobals "swapped" = some (some (.ref a_swapped))) (l_swapped : K.lookup a_swapped = some ⟨oc_swapped, od_swapped, .func (PySem.W.fnOf "swapped" "swapped" (defArgs s_swapped) (defBody s_swapped) (defScope s_swapped) .none kV_swapped dc_swapped pm_swapped an_swapped cd_swapped ct_swapped), sl_swapped⟩) (c_swapped : PySem.W.codeIn K cd_swapped "swapped" = true) (k_swapped : PySem.W.keepIn K (.ref a_swapped) = true) (x_rolled : PySem.W.nsIn K mainGlobals "rolled" = some (some (.ref a_rolled))) (l_rolled : K.lookup a_rolled = some ⟨oc_rolled, od_rolled, .func (PySem.W.fnOf "rolled" "rolled" (defArgs s_rolled) (defBody s_rolled) (defScope s_rolled) .none kV_rolled dc_rolled pm_rolled an_rolled cd_rolled ct_rolled), sl_rolled⟩) (c_rolled : PySem.W.codeIn K cd_rolled "rolled" = true) (k_rolled : PySem.W.keepIn K (.ref a_rolled) = true) (x_filled_up : PySem.W.nsIn K mainGlobals "filled_up" = some (some (.ref a_filled_up))) (l_filled_up : K.lookup a_filled_up = some ⟨oc_filled_up, od_filled_up, .func (PySem.W.fnOf "filled_up" "filled_up" (defArgs s_filled_up) (defBody s_filled_up) (defScope s_filled_up) .none kV_filled_up dc_filled_up pm_filled_up an_filled_up cd_filled_up ct_filled_up), sl_filled_up⟩) (c_filled_up : PySem.W.codeIn K cd_filled_up "filled_up" = true) (k_filled_up : PySem.W.keepIn K (.ref a_filled_up) = true) (x_volume : PySem.W.nsIn K mainGlobals "volume" = some (some (.ref a_volume))) (l_volume : K.lookup a_volume = some ⟨oc_volume, od_volume, .func (PySem.W.fnOf "volume" "volume" (defArgs s_volume) (defBody s_volume) (defScope s_volume) .none kV_volume dc_volume pm_volume an_volume cd_volume ct_volume), sl_volume⟩) (c_volume : PySem.W.codeIn K cd_volume "volume" = true) (k_volume : PySem.W.keepIn K (.ref a_volume) = true) (x_times_less : PySem.W.nsIn K mainGlobals "times_less" = some (some (.ref a_times_less))) (l_times_less : K.lookup a_times_less = some ⟨oc_times_less, od_times_less, .func (PySem.W.fnOf "times_less" "times_less" (defArgs s_times_less) (defBody s_times_less) (defScope s_times_less) .none kV_times_less dc_times_less pm_times_less an_times_less cd_times_less ct_times_less), sl_times_less⟩) (c_times_less : PySem.W.codeIn K cd_times_less "times_less" = true) (k_times_less : PySem.W.keepIn K (.ref a_times_less) = true) (x_by_less : PySem.W.nsIn K mainGlobals "by_less" = some (some (.ref a_by_less))) (l_by_less : K.lookup a_by_less = some ⟨oc_by_less, od_by_less, .func (PySem.W.fnOf "by_less" "by_less" (defArgs s_by_less) (defBody s_by_less) (defScope s_by_less) .none kV_by_less dc_by_less pm_by_less an_by_less cd_by_less ct_by_less), sl_by_less⟩) (c_by_less : PySem.W.codeIn K cd_by_less "by_less" = true) (k_by_less : PySem.W.keepIn K (.ref a_by_less) = true) (x_volume_counts : PySem.W.nsIn K mainGlobals "volume_counts" = some (some (.ref a_volume_counts))) (l_volume_counts : K.lookup a_volume_counts = some ⟨oc_volume_counts, od_volume_counts, .func (PySem.W.fnOf "volume_counts" "volume_counts" (defArgs s_volume_counts) (defBody s_volume_counts) (defScope s_volume_counts) .none kV_volume_counts dc_volume_counts pm_volume_counts an_volume_counts cd_volume_counts ct_volume_counts), sl_volume_counts⟩) (c_volume_counts : PySem.W.codeIn K cd_volume_counts "volume_counts" = true) (k_volume_counts : PySem.W.keepIn K (.ref a_volume_counts) = true) (x_all_counts : PySem.W.nsIn K mainGlobals "all_counts" = some (some (.ref a_all_counts))) (l_all_counts : K.lookup a_all_counts = some ⟨oc_all_counts, od_all_counts, .func (PySem.W.fnOf "all_counts" "all_counts" (defArgs s_all_counts) (defBody s_all_counts) (defScope s_all_counts) .none kV_all_counts dc_all_counts pm_all_counts an_all_counts cd_all_counts ct_all_counts), sl_all_counts⟩) (c_all_counts : PySem.W.codeIn K cd_all_counts "all_counts" = true) (k_all_counts : PySem.W.keepIn K (.ref a_all_counts) = true) (x_ulaw_refill : PySem.W.nsIn K mainGlobals "_law_refill" = some (some (.ref a_ulaw_refill))) (l_ulaw_refill : K.lookup a_ulaw_refill = some ⟨oc_ulaw_refill, od_ulaw_refill, .func (PySem.W.fnOf "_law_refill" "_law_refill" (defArgs s_ulaw_refill) (defBody s_ulaw_refill) (defScope s_ulaw_refill) .none kV_ulaw_refill dc_ulaw_refill pm_ulaw_refill an_ulaw_refill cd_ulaw_refill ct_ulaw_refill), sl_ulaw_refill⟩) (c_ulaw_refill : PySem.W.codeIn K cd_ulaw_refill "_law_refill" = true) (k_ulaw_refill : PySem.W.keepIn K (.ref a_ulaw_refill) = true) (x_ulaw_draw : PySem.W.nsIn K mainGlobals "_law_draw" = some (some (.ref a_ulaw_draw))) (l_ulaw_draw : K.lookup a_ulaw_draw = some ⟨oc_ulaw_draw, od_ulaw_draw, .func (PySem.W.fnOf "_law_draw" "_law_draw" (defArgs s_ulaw_draw) (defBody s_ulaw_draw) (defScope s_ulaw_draw) .none kV_ulaw_draw dc_ulaw_draw pm_ulaw_draw an_ulaw_draw cd_ulaw_draw ct_ulaw_draw), sl_ulaw_draw⟩) (c_ulaw_draw : PySem.W.codeIn K cd_ulaw_draw "_law_draw" = true) (k_ulaw_draw : PySem.W.keepIn K (.ref a_ulaw_draw) = true) (x_ulaw_exact : PySem.W.nsIn K mainGlobals "_law_exact" = some (some (.ref a_ulaw_exact))) (l_ulaw_exact : K.lookup a_ulaw_exact = some ⟨oc_ulaw_exact, od_ulaw_exact, .func (PySem.W.fnOf "_law_exact" "_law_exact" (defArgs s_ulaw_exact) (defBody s_ulaw_exact) (defScope s_ulaw_exact) .none kV_ulaw_exact dc_ulaw_exact pm_ulaw_exact an_ulaw_exact cd_ulaw_exact ct_ulaw_exact), sl_ulaw_exact⟩) (c_ulaw_exact : PySem.W.codeIn K cd_ulaw_exact "_law_exact" = true) (k_ulaw_exact : PySem.W.keepIn K (.ref a_ulaw_exact) = true) (x_ulaw_flat : PySem.W.nsIn K mainGlobals "_law_flat" = some (some (.ref a_ulaw_flat))) (l_ulaw_flat : K.lookup a_ulaw_flat = some ⟨oc_ulaw_flat, od_ulaw_flat, .func (PySem.W.fnOf "_law_flat" "_law_flat" (defArgs s_ulaw_flat) (defBody s_ulaw_flat) (defScope s_ulaw_flat) .none kV_ulaw_flat dc_ulaw_flat pm_ulaw_flat an_ulaw_flat cd_ulaw_flat ct_ulaw_flat), sl_ulaw_flat⟩) (c_ulaw_flat : PySem.W.codeIn K cd_ulaw_flat "_law_flat" = true) (k_ulaw_flat : PySem.W.keepIn K (.ref a_ulaw_flat) = true) (x_ulaw_heaps : PySem.W.nsIn K mainGlobals "_law_heaps" = some (some (.ref a_ulaw_heaps))) (l_ulaw_heaps : K.lookup a_ulaw_heaps = some ⟨oc_ulaw_heaps, od_ulaw_heaps, .func (PySem.W.fnOf "_law_heaps" "_law_heaps" (defArgs s_ulaw_heaps) (defBody s_ulaw_heaps) (defScope s_ulaw_heaps) .none kV_ulaw_heaps dc_ulaw_heaps pm_ulaw_heaps an_ulaw_heaps cd_ulaw_heaps ct_ulaw_heaps), sl_ulaw_heaps⟩) (c_ulaw_heaps : PySem.W.codeIn K cd_ulaw_heaps "_law_heaps" = true) (k_ulaw_heaps : PySem.W.keepIn K (.ref a_ulaw_heaps) = true) (x_ulaw_box : PySem.W.nsIn K mainGlobals "_law_box" = some (some (.ref a_ulaw_box))) (l_ulaw_box : K.lookup a_ulaw_box = some ⟨oc_ulaw_box, od_ulaw_box, .func (PySem.W.fnOf "_law_box" "_law_box" (defArgs s_ulaw_box) (defBody s_ulaw_box) (defScope s_ulaw_box) .none kV_ulaw_box dc_ulaw_box pm_ulaw_box an_ulaw_box cd_ulaw_box ct_ulaw_box), sl_ulaw_box⟩) (c_ulaw_box : PySem.W.codeIn K cd_ulaw_box "_law_box" = true) (k_ulaw_box : PySem.W.keepIn K (.ref a_ulaw_box) = true) (x_ulaw_heap : PySem.W.nsIn K mainGlobals "_law_heap" = some (some (.ref a_ulaw_heap))) (l_ulaw_heap : K.lookup a_ulaw_heap = some ⟨oc_ulaw_heap, od_ulaw_heap, .func (PySem.W.fnOf "_law_heap" "_law_heap" (defArgs s_ulaw_heap) (defBody s_ulaw_heap) (defScope s_ulaw_heap) .none kV_ulaw_heap dc_ulaw_heap pm_ulaw_heap an_ulaw_heap cd_ulaw_heap ct_ulaw_heap), sl_ulaw_heap⟩) (c_ulaw_heap : PySem.W.codeIn K cd_ulaw_heap "_law_heap" = true) (k_ulaw_heap : PySem.W.keepIn K (.ref a_ulaw_heap) = true) (x_ulaw_counts : PySem.W.nsIn K mainGlobals "_law_counts" = some (some (.ref a_ulaw_counts))) (l_ulaw_counts : K.lookup a_ulaw_counts = some ⟨oc_ulaw_counts, od_ulaw_counts, .func (PySem.W.fnOf "_law_counts" "_law_counts" (defArgs s_ulaw_counts) (defBody s_ulaw_counts) (defScope s_ulaw_counts) .none kV_ulaw_counts dc_ulaw_counts pm_ulaw_counts an_ulaw_counts cd_ulaw_counts ct_ulaw_counts), sl_ulaw_counts⟩) (c_ulaw_counts : PySem.W.codeIn K cd_ulaw_counts "_law_counts" = true) (k_ulaw_counts : PySem.W.keepIn K (.ref a_ulaw_counts) = true) (x_ulaw_any : PySem.W.nsIn K mainGlobals "_law_any" = some (some (.ref a_ulaw_any))) (l_ulaw_any : K.lookup a_ulaw_any = some ⟨oc_ulaw_any, od_ulaw_any, .func (PySem.W.fnOf "_law_any" "_law_any" (defArgs s_ulaw_any) (defBody s_ulaw_any) (defScope s_ulaw_any) .none kV_ulaw_any dc_ulaw_any pm_ulaw_any an_ulaw_any cd_ulaw_any ct_ulaw_any), sl_ulaw_any⟩) (c_ulaw_any : PySem.W.codeIn K cd_ulaw_any "_law_any" = true) (k_ulaw_any : PySem.W.keepIn K (.ref a_ulaw_any) = true) (x_law : PySem.W.nsIn K mainGlobals "law" = some (some (.ref a_law))) (l_law : K.lookup a_law = some ⟨oc_law, od_law, .func (PySem.W.fnOf "law" "law" (defArgs s_law) (defBody s_law) (defScope s_law) .none kV_law dc_law pm_law an_law cd_law ct_law), sl_law⟩) (c_law : PySem.W.codeIn K cd_law "law" = true) (k_law : PySem.W.keepIn K (.ref a_law) = true) (z_all : PySem.W.nsIn K mainGlobals "all" = some none) (z_bool : PySem.W.nsIn K mainGlobals "bool" = some none) (z_enumerate : PySem.W.nsIn K mainGlobals "enumerate" = some none) (z_int : PySem.W.nsIn K mainGlobals "int" = some none) (z_isinstance : PySem.W.nsIn K mainGlobals "isinstance" = some none) (z_len : PySem.W.nsIn K mainGlobals "len" = some none) (z_list : PySem.W.nsIn K mainGlobals "list" = some none) (z_min : PySem.W.nsIn K mainGlobals "min" = some none) (z_range : PySem.W.nsIn K mainGlobals "range" = some none) (z_reversed : PySem.W.nsIn K mainGlobals "reversed" = some none) (z_sorted : PySem.W.nsIn K mainGlobals "sorted" = some none) (z_str : PySem.W.nsIn K mainGlobals "str" = some none) (z_sum : PySem.W.nsIn K mainGlobals "sum" = some none) (z_tuple : PySem.W.nsIn K mainGlobals "tuple" = some none) :
    ∃ fd : FuncData, (∀ (s : Shared) (v : Value), BindsTo s fd ⟨[v], []⟩ [("script", v)]) ∧ ∀ base : Heap, K.In base → base.Ns mainGlobals mg → FnOk l.prog w K mg base CX0 13 fa fd ["script"] (spLaw K) := by
  have e := hfa.symm.trans (PySem.W.mg_of X G x_law)
  cases e
  have bn : ∀ x, x ∈ bnames → mg x = none := by
    intro x hx
    simp only [bnames, List.mem_cons, List.mem_nil_iff, or_false] at hx
    rcases hx with rfl | rfl | rfl | rfl | rfl | rfl | rfl | rfl | rfl | rfl | rfl | rfl | rfl | rfl
    · exact PySem.W.mg_none_of X G z_all
    · exact PySem.W.mg_none_of X G z_bool
    · exact PySem.W.mg_none_of X G z_enumerate
    · exact PySem.W.mg_none_of X G z_int
    · exact PySem.W.mg_none_of X G z_isinstance
    · exact PySem.W.mg_none_of X G z_len
    · exact PySem.W.mg_none_of X G z_list
    · exact PySem.W.mg_none_of X G z_min
    · exact PySem.W.mg_none_of X G z_range
    · exact PySem.W.mg_none_of X G z_reversed
    · exact PySem.W.mg_none_of X G z_sorted
    · exact PySem.W.mg_none_of X G z_str
    · exact PySem.W.mg_none_of X G z_sum
    · exact PySem.W.mg_none_of X G z_tuple
  have F_cubes' := fun_mk (st := s_cubes) l_cubes c_cubes k_cubes
  have b_cubes := F_cubes'.binds (ps := ["rows"]) fun _ _ _ _ _ _ us hl => match us, hl with | [_], _ => rfl
  have F_from_cubes' := fun_mk (st := s_from_cubes) l_from_cubes c_from_cubes k_from_cubes
  have b_from_cubes := F_from_cubes'.binds (ps := ["cells", "a", "b"]) fun _ _ _ _ _ _ us hl => match us, hl with | [_, _, _], _ => rfl
  have F_moved' := fun_mk (st := s_moved) l_moved c_moved k_moved
  have b_moved := F_moved'.binds (ps := ["cells", "order"]) fun _ _ _ _ _ _ us hl => match us, hl with | [_, _], _ => rfl
  have F_swapped' := fun_mk (st := s_swapped) l_swapped c_swapped k_swapped
  have b_swapped := F_swapped'.binds (ps := ["rows"]) fun _ _ _ _ _ _ us hl => match us, hl with | [_], _ => rfl
  have F_rolled' := fun_mk (st := s_rolled) l_rolled c_rolled k_rolled
  have b_rolled := F_rolled'.binds (ps := ["rows", "c"]) fun _ _ _ _ _ _ us hl => match us, hl with | [_, _], _ => rfl
  have F_filled_up' := fun_mk (st := s_filled_up) l_filled_up c_filled_up k_filled_up
  have b_filled_up := F_filled_up'.binds (ps := ["rows", "c"]) fun _ _ _ _ _ _ us hl => match us, hl with | [_, _], _ => rfl
  have F_volume' := fun_mk (st := s_volume) l_volume c_volume k_volume
  have b_volume := F_volume'.binds (ps := ["rows"]) fun _ _ _ _ _ _ us hl => match us, hl with | [_], _ => rfl
  have F_times_less' := fun_mk (st := s_times_less) l_times_less c_times_less k_times_less
  have b_times_less := F_times_less'.binds (ps := ["row", "k"]) fun _ _ _ _ _ _ us hl => match us, hl with | [_, _], _ => rfl
  have F_by_less' := fun_mk (st := s_by_less) l_by_less c_by_less k_by_less
  have b_by_less := F_by_less'.binds (ps := ["row", "k"]) fun _ _ _ _ _ _ us hl => match us, hl with | [_, _], _ => rfl
  have F_volume_counts' := fun_mk (st := s_volume_counts) l_volume_counts c_volume_counts k_volume_counts
  have b_volume_counts := F_volume_counts'.binds (ps := ["a", "b", "c"]) fun _ _ _ _ _ _ us hl => match us, hl with | [_, _, _], _ => rfl
  have F_all_counts' := fun_mk (st := s_all_counts) l_all_counts c_all_counts k_all_counts
  have b_all_counts := F_all_counts'.binds (ps := ["most"]) fun _ _ _ _ _ _ us hl => match us, hl with | [_], _ => rfl
  have F_ulaw_refill' := fun_mk (st := s_ulaw_refill) l_ulaw_refill c_ulaw_refill k_ulaw_refill
  have b_ulaw_refill := F_ulaw_refill'.binds (ps := ["script", "k"]) fun _ _ _ _ _ _ us hl => match us, hl with | [_, _], _ => rfl
  have F_ulaw_draw' := fun_mk (st := s_ulaw_draw) l_ulaw_draw c_ulaw_draw k_ulaw_draw
  have b_ulaw_draw := F_ulaw_draw'.binds (ps := ["state", "script", "size"]) fun _ _ _ _ _ _ us hl => match us, hl with | [_, _, _], _ => rfl
  have F_ulaw_exact' := fun_mk (st := s_ulaw_exact) l_ulaw_exact c_ulaw_exact k_ulaw_exact
  have b_ulaw_exact := F_ulaw_exact'.binds (ps := ["first", "second"]) fun _ _ _ _ _ _ us hl => match us, hl with | [_, _], _ => rfl
  have F_ulaw_flat' := fun_mk (st := s_ulaw_flat) l_ulaw_flat c_ulaw_flat k_ulaw_flat
  have b_ulaw_flat := F_ulaw_flat'.binds (ps := ["rows"]) fun _ _ _ _ _ _ us hl => match us, hl with | [_], _ => rfl
  have F_ulaw_heaps' := fun_mk (st := s_ulaw_heaps) l_ulaw_heaps c_ulaw_heaps k_ulaw_heaps
  have b_ulaw_heaps := F_ulaw_heaps'.binds (ps := ["a", "b", "c"]) fun _ _ _ _ _ _ us hl => match us, hl with | [_, _, _], _ => rfl
  have F_ulaw_box' := fun_mk (st := s_ulaw_box) l_ulaw_box c_ulaw_box k_ulaw_box
  have b_ulaw_box := F_ulaw_box'.binds (ps := ["state", "script"]) fun _ _ _ _ _ _ us hl => match us, hl with | [_, _], _ => rfl
  have F_ulaw_heap' := fun_mk (st := s_ulaw_heap) l_ulaw_heap c_ulaw_heap k_ulaw_heap
  have b_ulaw_heap := F_ulaw_heap'.binds (ps := ["state", "script", "a", "b", "c"]) fun _ _ _ _ _ _ us hl => match us, hl with | [_, _, _, _, _], _ => rfl
  have F_ulaw_counts' := fun_mk (st := s_ulaw_counts) l_ulaw_counts c_ulaw_counts k_ulaw_counts
  have b_ulaw_counts := F_ulaw_counts'.binds (ps := ["a", "b", "c"]) fun _ _ _ _ _ _ us hl => match us, hl with | [_, _, _], _ => rfl
  have F_ulaw_any' := fun_mk (st := s_ulaw_any) l_ulaw_any c_ulaw_any k_ulaw_any
  have b_ulaw_any := F_ulaw_any'.binds (ps := ["most"]) fun _ _ _ _ _ _ us hl => match us, hl with | [_], _ => rfl
  have F_law' := fun_mk (st := s_law) l_law c_law k_law
  have b_law := F_law'.binds (ps := ["script"]) fun _ _ _ _ _ _ us hl => match us, hl with | [_], _ => rfl
  refine ⟨PySem.W.fnOf "law" "law" (defArgs s_law) (defBody s_law) (defScope s_law) .none kV_law dc_law pm_law an_law cd_law ct_law, fun s v => .of_eq rfl, fun base _ _ => ?_⟩
  have C_cubes := ok_cubes (P := l.prog) (w := w) (base := base) F_cubes' (PySem.W.mg_of X G x_cubes) b_cubes bn
  have C_from_cubes := ok_from_cubes (P := l.prog) (w := w) (base := base) F_from_cubes' (PySem.W.mg_of X G x_from_cubes) b_from_cubes bn
  have C_moved := ok_moved (P := l.prog) (w := w) (base := base) F_moved' (PySem.W.mg_of X G x_moved) b_moved bn
  have C_swapped := ok_swapped (P := l.prog) (w := w) (base := base) F_swapped' (PySem.W.mg_of X G x_swapped) b_swapped bn
  have C_rolled := ok_rolled (P := l.prog) (w := w) (base := base) F_rolled' (PySem.W.mg_of X G x_rolled) b_rolled bn C_cubes C_moved C_from_cubes
  have C_filled_up := ok_filled_up (P := l.prog) (w := w) (base := base) F_filled_up' (PySem.W.mg_of X G x_filled_up) b_filled_up bn
  have C_volume := ok_volume (P := l.prog) (w := w) (base := base) F_volume' (PySem.W.mg_of X G x_volume) b_volume bn
  have C_times_less := ok_times_less (P := l.prog) (w := w) (base := base) F_times_less' (PySem.W.mg_of X G x_times_less) b_times_less bn
  have C_by_less := ok_by_less (P := l.prog) (w := w) (base := base) F_by_less' (PySem.W.mg_of X G x_by_less) b_by_less bn
  have C_volume_counts := ok_volume_counts (P := l.prog) (w := w) (base := base) F_volume_counts' (PySem.W.mg_of X G x_volume_counts) b_volume_counts bn C_times_less C_by_less
  have C_all_counts := ok_all_counts (P := l.prog) (w := w) (base := base) F_all_counts' (PySem.W.mg_of X G x_all_counts) b_all_counts bn
  have C_ulaw_refill := ok_ulaw_refill (P := l.prog) (w := w) (base := base) F_ulaw_refill' (PySem.W.mg_of X G x_ulaw_refill) b_ulaw_refill bn
  have C_ulaw_draw := ok_ulaw_draw (P := l.prog) (w := w) (base := base) F_ulaw_draw' (PySem.W.mg_of X G x_ulaw_draw) b_ulaw_draw bn C_ulaw_refill
  have C_ulaw_exact := ok_ulaw_exact (P := l.prog) (w := w) (base := base) F_ulaw_exact' (PySem.W.mg_of X G x_ulaw_exact) b_ulaw_exact bn 12
  have C_ulaw_flat := ok_ulaw_flat (P := l.prog) (w := w) (base := base) F_ulaw_flat' (PySem.W.mg_of X G x_ulaw_flat) b_ulaw_flat bn
  have C_ulaw_heaps := ok_ulaw_heaps (P := l.prog) (w := w) (base := base) F_ulaw_heaps' (PySem.W.mg_of X G x_ulaw_heaps) b_ulaw_heaps bn
  have C_ulaw_box := ok_ulaw_box (P := l.prog) (w := w) (base := base) F_ulaw_box' (PySem.W.mg_of X G x_ulaw_box) b_ulaw_box C_ulaw_draw
  have C_ulaw_heap := ok_ulaw_heap (P := l.prog) (w := w) (base := base) F_ulaw_heap' (PySem.W.mg_of X G x_ulaw_heap) b_ulaw_heap bn C_ulaw_draw
  have C_ulaw_counts := ok_ulaw_counts (P := l.prog) (w := w) (base := base) F_ulaw_counts' (PySem.W.mg_of X G x_ulaw_counts) b_ulaw_counts bn C_ulaw_heaps C_ulaw_flat
  have C_ulaw_any := ok_ulaw_any (P := l.prog) (w := w) (base := base) F_ulaw_any' (PySem.W.mg_of X G x_ulaw_any) b_ulaw_any bn
  exact (fn_law (P := l.prog) (w := w) (base := base) F_law' (PySem.W.mg_of X G x_law) b_law bn C_ulaw_draw C_ulaw_heap C_cubes C_from_cubes C_swapped C_ulaw_exact C_rolled C_filled_up C_volume C_ulaw_box C_ulaw_counts C_volume_counts C_ulaw_any C_all_counts).imp (sp_law T)
end K85
end VS
open PySem PySem.W PyProof.Rows
set_option maxHeartbeats 0 in
theorem PySem.Challenge.cw_sumwright_k85_whole_moves_and_volumes_holds : PySem.Challenge.rw_sumwright_k85_whole_moves_and_volumes.Holds := by
  w_on; o_law; k_head; (case hw => w_witness2)
  k_fill
  refine L2.walk_of (l := PySem.Challenge.rw_sumwright_k85_whole_moves_and_volumes) (n := 63) (k := 13) (x := "script") (CX := fun _ => L2.CX0) (sp := fun w => VS.K85.spLaw _) rfl (by decide) rfl ⟨rfl, by decide, by decide⟩ (fun w h Y => PySem.W.kIn_of Y) ?F (fun _ _ a ns hl _ hS => ⟨a, ns, rfl, hS, hl, fun _ => rfl⟩) (fun _ _ _ _ _ h => h)
  case F =>
    intro w mg fa h KX G hmg
    refine' VS.K85.all_mk VS.K85.law_true KX G hmg ?x_cubes ?l_cubes ?c_cubes ?k_cubes ?x_from_cubes ?l_from_cubes ?c_from_cubes ?k_from_cubes ?x_moved ?l_moved ?c_moved ?k_moved ?x_swapped ?l_swapped ?c_swapped ?k_swapped ?x_rolled ?l_rolled ?c_rolled ?k_rolled ?x_filled_up ?l_filled_up ?c_filled_up ?k_filled_up ?x_volume ?l_volume ?c_volume ?k_volume ?x_times_less ?l_times_less ?c_times_less ?k_times_less ?x_by_less ?l_by_less ?c_by_less ?k_by_less ?x_volume_counts ?l_volume_counts ?c_volume_counts ?k_volume_counts ?x_all_counts ?l_all_counts ?c_all_counts ?k_all_counts ?x_ulaw_refill ?l_ulaw_refill ?c_ulaw_refill ?k_ulaw_refill ?x_ulaw_draw ?l_ulaw_draw ?c_ulaw_draw ?k_ulaw_draw ?x_ulaw_exact ?l_ulaw_exact ?c_ulaw_exact ?k_ulaw_exact ?x_ulaw_flat ?l_ulaw_flat ?c_ulaw_flat ?k_ulaw_flat ?x_ulaw_heaps ?l_ulaw_heaps ?c_ulaw_heaps ?k_ulaw_heaps ?x_ulaw_box ?l_ulaw_box ?c_ulaw_box ?k_ulaw_box ?x_ulaw_heap ?l_ulaw_heap ?c_ulaw_heap ?k_ulaw_heap ?x_ulaw_counts ?l_ulaw_counts ?c_ulaw_counts ?k_ulaw_counts ?x_ulaw_any ?l_ulaw_any ?c_ulaw_any ?k_ulaw_any ?x_law ?l_law ?c_law ?k_law ?z_all ?z_bool ?z_enumerate ?z_int ?z_isinstance ?z_len ?z_list ?z_min ?z_range ?z_reversed ?z_sorted ?z_str ?z_sum ?z_tuple
    (case x_cubes => k_is); (case l_cubes => k_is); (case c_cubes => k_is); (case k_cubes => k_is); (case x_from_cubes => k_is); (case l_from_cubes => k_is); (case c_from_cubes => k_is); (case k_from_cubes => k_is); (case x_moved => k_is); (case l_moved => k_is); (case c_moved => k_is); (case k_moved => k_is); (case x_swapped => k_is); (case l_swapped => k_is); (case c_swapped => k_is); (case k_swapped => k_is); (case x_rolled => k_is); (case l_rolled => k_is); (case c_rolled => k_is); (case k_rolled => k_is); (case x_filled_up => k_is); (case l_filled_up => k_is); (case c_filled_up => k_is); (case k_filled_up => k_is); (case x_volume => k_is); (case l_volume => k_is); (case c_volume => k_is); (case k_volume => k_is); (case x_times_less => k_is); (case l_times_less => k_is); (case c_times_less => k_is); (case k_times_less => k_is); (case x_by_less => k_is); (case l_by_less => k_is); (case c_by_less => k_is); (case k_by_less => k_is); (case x_volume_counts => k_is); (case l_volume_counts => k_is); (case c_volume_counts => k_is); (case k_volume_counts => k_is); (case x_all_counts => k_is); (case l_all_counts => k_is); (case c_all_counts => k_is); (case k_all_counts => k_is); (case x_ulaw_refill => k_is); (case l_ulaw_refill => k_is); (case c_ulaw_refill => k_is); (case k_ulaw_refill => k_is); (case x_ulaw_draw => k_is); (case l_ulaw_draw => k_is); (case c_ulaw_draw => k_is); (case k_ulaw_draw => k_is); (case x_ulaw_exact => k_is); (case l_ulaw_exact => k_is); (case c_ulaw_exact => k_is); (case k_ulaw_exact => k_is); (case x_ulaw_flat => k_is); (case l_ulaw_flat => k_is); (case c_ulaw_flat => k_is); (case k_ulaw_flat => k_is); (case x_ulaw_heaps => k_is); (case l_ulaw_heaps => k_is); (case c_ulaw_heaps => k_is); (case k_ulaw_heaps => k_is); (case x_ulaw_box => k_is); (case l_ulaw_box => k_is); (case c_ulaw_box => k_is); (case k_ulaw_box => k_is); (case x_ulaw_heap => k_is); (case l_ulaw_heap => k_is); (case c_ulaw_heap => k_is); (case k_ulaw_heap => k_is); (case x_ulaw_counts => k_is); (case l_ulaw_counts => k_is); (case c_ulaw_counts => k_is); (case k_ulaw_counts => k_is); (case x_ulaw_any => k_is); (case l_ulaw_any => k_is); (case c_ulaw_any => k_is); (case k_ulaw_any => k_is); (case x_law => k_is); (case l_law => k_is); (case c_law => k_is); (case k_law => k_is); (case z_all => k_is); (case z_bool => k_is); (case z_enumerate => k_is); (case z_int => k_is); (case z_isinstance => k_is); (case z_len => k_is); (case z_list => k_is); (case z_min => k_is); (case z_range => k_is); (case z_reversed => k_is); (case z_sorted => k_is); (case z_str => k_is); (case z_sum => k_is); (case z_tuple => k_is)
