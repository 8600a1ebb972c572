import PyProof.Rows.All
import Wide.All
import OpenK.AllK
import Wide.FinOn
import HandS.ForMost
import KE.KDictKeyed
import KE.KeyNested
import HandS.Zip
import HandS.Rev
import PyProof.Draws
import KE.GoesMore
import KE.GoesEnum
import KE.SortData
import KE.DataMinMax
import KE.DataEq
import KE.DataFind
import KE.DatumIndex
import KE.DataAny
import HandS.TupAny
import HandS.Wide
import HandS.Gcd
import HandS.IsInst
import HandS.TupMul
import HandS.SortInts
import HandS.Conv
import HandS.Style
import PyProof.SliceList
import KE.KRevSl
import PyProof.MaxThree
import PySem.Challenge.RW_sumwright_k89_whole_plane_partitions_tha
set_option Elab.async false
set_option linter.all false
set_option Elab.async false
set_option linter.all false
set_option maxRecDepth 100000
/-! Values without the heap: data D, who owns which list or dict, one frame's slots. -/
namespace VS
open PySem PySem.Spec PyProof.Rows L2

/-- a datum; und: a slot without a value; dct's first field: 0 keys are ints and texts, 1 tuples -/
inductive D where
  | und | non | bl (b : Bool) | int (i : Int) | str (s : Str)
  | tup (xs : List D) | lst (xs : List D) | dct (t : Nat) (ks vs : List D)
  deriving Inhabited

namespace D
mutual
def beq : D → D → Bool
  | und, und => true
  | non, non => true
  | bl a, bl b => a == b
  | int a, int b => decide (a = b)
  | str a, str b => decide (a = b)
  | tup a, tup b => beqL a b
  | lst a, lst b => beqL a b
  | dct s a c, dct t b d => (s == t) && beqL a b && beqL c d
  | und, non | und, bl _ | und, int _ | und, str _ | und, tup _ | und, lst _ | und, dct .. => false
  | non, und | non, bl _ | non, int _ | non, str _ | non, tup _ | non, lst _ | non, dct .. => false
  | bl _, und | bl _, non | bl _, int _ | bl _, str _ | bl _, tup _ | bl _, lst _ | bl _, dct .. => false
  | int _, und | int _, non | int _, bl _ | int _, str _ | int _, tup _ | int _, lst _ | int _, dct .. => false
  | str _, und | str _, non | str _, bl _ | str _, int _ | str _, tup _ | str _, lst _ | str _, dct .. => false
  | tup _, und | tup _, non | tup _, bl _ | tup _, int _ | tup _, str _ | tup _, lst _ | tup _, dct .. => false
  | lst _, und | lst _, non | lst _, bl _ | lst _, int _ | lst _, str _ | lst _, tup _ | lst _, dct .. => false
  | dct .., und | dct .., non | dct .., bl _ | dct .., int _ | dct .., str _ | dct .., tup _ | dct .., lst _ => false
def beqL : List D → List D → Bool
  | [], [] => true
  | a :: as, b :: bs => beq a b && beqL as bs
  | [], _ :: _ => false
  | _ :: _, [] => false
end
mutual
theorem beq_self : ∀ a : D, beq a a = true
  | und => rfl
  | non => rfl
  | bl a => by simp [beq]
  | int a => by simp [beq]
  | str a => by simp [beq]
  | tup a => by rw [beq]; exact beqL_self a
  | lst a => by rw [beq]; exact beqL_self a
  | dct t a b => by rw [beq, beqL_self a, beqL_self b]; simp
theorem beqL_self : ∀ a : List D, beqL a a = true
  | [] => rfl
  | a :: as => by rw [beqL, beq_self a, beqL_self as]; rfl
end
mutual
theorem eq_of_beq : ∀ a b : D, beq a b = true → a = b
  | und, b, h => by cases b <;> simp_all [beq]
  | non, b, h => by cases b <;> simp_all [beq]
  | bl a, b, h => by cases b <;> simp_all [beq]
  | int a, b, h => by cases b <;> simp_all [beq]
  | str a, b, h => by cases b <;> simp_all [beq]
  | tup a, b, h => by
    cases b with
    | tup b => rw [beq] at h; rw [eq_of_beqL a b h]
    | _ => simp [beq] at h
  | lst a, b, h => by
    cases b with
    | lst b => rw [beq] at h; rw [eq_of_beqL a b h]
    | _ => simp [beq] at h
  | dct s a c, b, h => by
    cases b with
    | dct t b d =>
      rw [beq, Bool.and_eq_true, Bool.and_eq_true] at h
      rw [eq_of_beqL a b h.1.2, eq_of_beqL c d h.2, beq_iff_eq.mp h.1.1]
    | _ => simp [beq] at h
theorem eq_of_beqL : ∀ a b : List D, beqL a b = true → a = b
  | [], [], _ => rfl
  | a :: as, b :: bs, h => by
    rw [beqL, Bool.and_eq_true] at h
    rw [eq_of_beq a b h.1, eq_of_beqL as bs h.2]
  | [], _ :: _, h => by simp [beqL] at h
  | _ :: _, [], h => by simp [beqL] at h
end
instance : DecidableEq D := fun a b => if h : beq a b = true then .isTrue (eq_of_beq a b h) else .isFalse fun e => h (e ▸ beq_self a)
theorem beq_eq (a b : D) : beq a b = decide (a = b) := by
  by_cases h : a = b
  · subst h; rw [beq_self]; simp
  · rw [decide_eq_false h]
    cases q : beq a b with
    | false => rfl
    | true => exact absurd (eq_of_beq a b q) h
mutual
/-- a tuple key of a dict: ints, texts, None, tuples of such -/
def toNK : D → Option NestedKey
  | non => some .none
  | int i => some (.num i)
  | str x => some (.text x)
  | tup xs => (toNKs xs).map .tup
  | und | bl _ | lst _ | dct .. => Option.none
def toNKs : List D → Option (List NestedKey)
  | [] => some []
  | d :: ds => (toNK d).bind fun k => (toNKs ds).map fun ks => k :: ks
end
end D

/-- where one stands: the written part, the program, the world -/
structure Wd where
  K : PySem.W.Frag
  prog : Program
  w : World

/-- a dict with tuple keys: its entries' keys, the keys' addresses, the values -/
def dN (G : Wd) (a : Addr) (xs : List (NestedKey × Addr × V)) : HO := .ext fun h => xs.length ≤ sizeLine ∧ (a == sysModules) = false ∧
  ∃ ys : List (NestedKey × Addr × Value), Paired (fun (p : NestedKey × Addr × V) (q : NestedKey × Addr × Value) => p.1 = q.1 ∧ p.2.1 = q.2.1 ∧ RelV p.2.2 q.2.2) xs ys ∧
    ∃ o es ep, h.get? a = some o ∧ o.ExactDict ∧ o.data = .dict es ep ∧ es.toList = ys.map (entryOfKey (nestedKind G.prog G.w)) ∧ (ys.map (·.1)).Nodup
/-- a key as a datum -/
def kD : Key → D
  | .inl i => .int i
  | .inr x => .str x
/-- a dict's object at a: its keys' values and data, its values -/
inductive DicHO (G : Wd) (a : Addr) : Nat → HO → List V → List D → List V → Prop
  | k (kvs : List (Key × V)) : DicHO G a 0 (.dK kvs) (kvs.map fun p => kV p.1) (kvs.map fun p => kD p.1) (kvs.map fun p => p.2)
  | n (xs : List (NestedKey × Addr × V)) (ks : List D) : ks.map D.toNK = xs.map (fun p => some p.1) → DicHO G a 1 (dN G a xs) (xs.map fun p => .ref p.2.1) ks (xs.map fun p => p.2.2)
/-- an object that may be changed -/
def IsM : HO → Prop
  | .lst _ => True
  | .dK _ => True
  | .ext _ => True
  | _ => False
theorem DicHO.isM {G : Wd} {a : Addr} {t : Nat} {u : HO} {kv vs : List V} {ks : List D} (h : DicHO G a t u kv ks vs) : IsM u := by
  cases h <;> trivial

/-- a list of the written part -/
def KL (K : PySem.W.Frag) (a : Addr) (xs : List V) : Prop :=
  ∃ (o : Obj) (its : Array Value) (n : Nat), K.lookup a = some o ∧ o.cls = .type "list" ∧ o.dict = none ∧ o.data = .seq its n ∧ its.size ≤ sizeLine ∧ Vals xs its.toList
/-- a shared list: in P, or one that stands still -/
def ShL (G : Wd) (P : Addr → Prop) (H : Hp) (a : Addr) (xs : List V) : Prop :=
  (P a ∧ H a = some (.lst xs)) ∨ (∃ o, H a = some (.frz o (.lst xs))) ∨ KL G.K a xs
theorem ShL.sq {G : Wd} {P : Addr → Prop} {H : Hp} {a : Addr} {xs : List V} (h : ShL G P H a xs) : SqL G.K H a xs := by
  rcases h with ⟨_, h⟩ | ⟨o, h⟩ | h
  · exact .inl (.inl h)
  · exact .inl (.inr ⟨o, h⟩)
  · exact .inr h

mutual
/-- what v denotes, all lists and dicts in it shared (in P) -/
inductive Den (G : Wd) (P : Addr → Prop) (H : Hp) : V → D → Prop
  | non : Den G P H .non .non
  | bl (b : Bool) : Den G P H (.bl b) (.bl b)
  | int (i : Int) : Den G P H (.int i) (.int i)
  | str (x : Str) : Den G P H (.str x) (.str x)
  | tup {a : Addr} {vs : List V} {ds : List D} : H a = some (.tup vs) → DenL G P H vs ds → Den G P H (.ref a) (.tup ds)
  | lst {a : Addr} {vs : List V} {ds : List D} : ShL G P H a vs → DenL G P H vs ds → Den G P H (.ref a) (.lst ds)
  | dct {a : Addr} {t : Nat} {u : HO} {kv : List V} {ks : List D} {vs : List V} {ds : List D} : P a → H a = some u → DicHO G a t u kv ks vs → DenL G P H kv ks → DenL G P H vs ds → Den G P H (.ref a) (.dct t ks ds)
inductive DenL (G : Wd) (P : Addr → Prop) (H : Hp) : List V → List D → Prop
  | nil : DenL G P H [] []
  | cons {v : V} {vs : List V} {d : D} {ds : List D} : Den G P H v d → DenL G P H vs ds → DenL G P H (v :: vs) (d :: ds)
end

/-- a step of the world: Z is what may change -/
structure Ext (Z : Addr → Prop) (P : Addr → Prop) (H : Hp) (P' : Addr → Prop) (H' : Hp) : Prop where
  mono : ∀ a, P a → P' a
  newP : ∀ a, P' a → P a ∨ H a = none ∨ Z a
  frame : ∀ a o, H a = some o → ¬ Z a → H' a = some o
  there : ∀ a, H a ≠ none → H' a ≠ none
  zm : ∀ a, Z a → ∃ u, H a = some u ∧ IsM u
  zp : ∀ a, Z a → ¬ P a
  pt : (∀ a, P a → ∃ u, H a = some u ∧ IsM u) → ∀ a, P' a → ∃ u, H' a = some u ∧ IsM u

section
variable {G : Wd} {P P' P1 P2 : Addr → Prop} {H H' H1 H2 : Hp} {Z Z1 : Addr → Prop}
theorem Ext.keepM (E : Ext Z P H P' H') {a : Addr} {o : HO} (h : H a = some o) (n : ¬ IsM o) : H' a = some o := E.frame a o h fun z => by
  obtain ⟨u, q, m⟩ := E.zm a z
  rw [h] at q; cases q; exact n m
theorem Ext.keepP (E : Ext Z P H P' H') {a : Addr} {o : HO} (h : H a = some o) (p : P a) : H' a = some o := E.frame a o h fun z => E.zp a z p
theorem ShL.ext (E : Ext Z P H P' H') {a : Addr} {xs : List V} (h : ShL G P H a xs) : ShL G P' H' a xs := by
  rcases h with ⟨p, h⟩ | ⟨o, h⟩ | h
  · exact .inl ⟨E.mono a p, E.keepP h p⟩
  · exact .inr (.inl ⟨o, E.keepM h id⟩)
  · exact .inr (.inr h)
mutual
theorem Den.ext (E : Ext Z P H P' H') : ∀ {v : V} {d : D}, Den G P H v d → Den G P' H' v d
  | _, _, .non => .non
  | _, _, .bl b => .bl b
  | _, _, .int i => .int i
  | _, _, .str x => .str x
  | _, _, .tup h r => .tup (E.keepM h id) (DenL.ext E r)
  | _, _, .lst h r => .lst (h.ext E) (DenL.ext E r)
  | _, _, .dct p h k r q => .dct (E.mono _ p) (E.keepP h p) k (DenL.ext E r) (DenL.ext E q)
theorem DenL.ext (E : Ext Z P H P' H') : ∀ {vs : List V} {ds : List D}, DenL G P H vs ds → DenL G P' H' vs ds
  | _, _, .nil => .nil
  | _, _, .cons h r => .cons (Den.ext E h) (DenL.ext E r)
end
theorem Ext.refl (zm : ∀ a, Z a → ∃ u, H a = some u ∧ IsM u) (zp : ∀ a, Z a → ¬ P a) : Ext Z P H P H :=
  ⟨fun _ h => h, fun _ h => .inl h, fun _ _ h _ => h, fun _ h => h, zm, zp, fun h => h⟩
theorem Ext.refl0 : Ext (fun _ => False) P H P H := .refl (fun _ h => h.elim) fun _ h => h.elim
theorem Ext.trans (a : Ext Z P H P1 H1) (b : Ext Z1 P1 H1 P2 H2) (hz : ∀ c, Z1 c → Z c ∨ H c = none) : Ext Z P H P2 H2 where
  mono := fun c h => b.mono c (a.mono c h)
  newP := fun c h => by
    rcases b.newP c h with q | q | q
    · exact a.newP c q
    · refine .inr (.inl ?_)
      cases e : H c with
      | none => rfl
      | some o => exact absurd q (a.there c (by rw [e]; simp))
    · rcases hz c q with r | r
      · exact .inr (.inr r)
      · exact .inr (.inl r)
  frame := fun c o h n => b.frame c o (a.frame c o h n) fun q => by
    rcases hz c q with r | r
    · exact n r
    · rw [h] at r; cases r
  there := fun c h => b.there c (a.there c h)
  zm := a.zm
  zp := a.zp
  pt := fun h => b.pt (a.pt h)
/-- Z may grow -/
theorem Ext.more (a : Ext Z P H P1 H1) (h : ∀ c, Z c → Z1 c) (zm : ∀ a, Z1 a → ∃ u, H a = some u ∧ IsM u) (zp : ∀ a, Z1 a → ¬ P a) : Ext Z1 P H P1 H1 :=
  ⟨a.mono, fun c q => (a.newP c q).imp id (.imp id (h c)), fun c o q n => a.frame c o q fun z => n (h c z), a.there, zm, zp, a.pt⟩
/-- new objects alone -/
theorem Ext.new (h : ∀ a o, H a = some o → H' a = some o) : Ext (fun _ => False) P H P H' :=
  ⟨fun _ h => h, fun _ h => .inl h, fun a o q _ => h a o q, fun a q => by
    cases e : H a with
    | none => exact absurd e q
    | some o => rw [h a o e]; simp, fun _ h => h.elim, fun _ h => h.elim, fun p a q => let ⟨u, e, m⟩ := p a q; ⟨u, h a u e, m⟩⟩
/-- more is shared -/
theorem Ext.share (Z : Addr → Prop) (zm : ∀ a, Z a → ∃ u, H a = some u ∧ IsM u) (zp : ∀ a, Z a → ¬ P a) : Ext Z P H (fun a => P a ∨ Z a) H :=
  ⟨fun _ h => .inl h, fun _ h => h.imp id .inr, fun _ _ h _ => h, fun _ h => h, zm, zp, fun p a h => h.elim (p a) (zm a)⟩
theorem DenL.length : ∀ {vs : List V} {ds : List D}, DenL G P H vs ds → vs.length = ds.length
  | _, _, .nil => rfl
  | _, _, .cons _ r => by rw [List.length_cons, List.length_cons, r.length]
theorem DenL.get : ∀ {vs : List V} {ds : List D} {i : Nat} {d : D}, DenL G P H vs ds → ds[i]? = some d → ∃ v, vs[i]? = some v ∧ Den G P H v d
  | _, _, _, _, .nil, e => by simp at e
  | _, _, 0, _, .cons h _, e => by simp at e; subst e; exact ⟨_, rfl, h⟩
  | _, _, i + 1, d, .cons _ r, e => by
    obtain ⟨v, h1, h2⟩ := DenL.get (i := i) (d := d) r (by simpa using e)
    exact ⟨v, by simpa using h1, h2⟩
theorem DenL.getV : ∀ {vs : List V} {ds : List D} {i : Nat} {v : V}, DenL G P H vs ds → vs[i]? = some v → ∃ d, ds[i]? = some d ∧ Den G P H v d
  | _, _, _, _, .nil, e => by simp at e
  | _, _, 0, _, .cons h _, e => by simp at e; subst e; exact ⟨_, rfl, h⟩
  | _, _, i + 1, d, .cons _ r, e => by
    obtain ⟨v, h1, h2⟩ := DenL.getV (i := i) (v := d) r (by simpa using e)
    exact ⟨v, by simpa using h1, h2⟩
theorem DenL.append : ∀ {vs ws : List V} {ds es : List D}, DenL G P H vs ds → DenL G P H ws es → DenL G P H (vs ++ ws) (ds ++ es)
  | _, _, _, _, .nil, s => s
  | _, _, _, _, .cons h t, s => .cons h (t.append s)
theorem DenL.take : ∀ {vs : List V} {ds : List D} (n : Nat), DenL G P H vs ds → DenL G P H (vs.take n) (ds.take n)
  | _, _, 0, _ => .nil
  | _, _, _ + 1, .nil => .nil
  | _, _, n + 1, .cons h t => .cons h (t.take n)
theorem DenL.drop : ∀ {vs : List V} {ds : List D} (n : Nat), DenL G P H vs ds → DenL G P H (vs.drop n) (ds.drop n)
  | _, _, 0, r => r
  | _, _, _ + 1, .nil => .nil
  | _, _, n + 1, .cons _ t => t.drop n
theorem DenL.reverse {vs : List V} {ds : List D} (h : DenL G P H vs ds) : DenL G P H vs.reverse ds.reverse := by
  induction h using DenL.rec (motive_1 := fun _ _ _ => True) with
  | nil => exact .nil
  | cons h _ _ ih => rw [List.reverse_cons, List.reverse_cons]; exact ih.append (.cons h .nil)
  | _ => trivial
theorem DenL.set : ∀ {vs : List V} {ds : List D} (i : Nat) {v : V} {d : D}, DenL G P H vs ds → Den G P H v d → DenL G P H (vs.set i v) (ds.set i d)
  | _, _, _, _, _, .nil, _ => .nil
  | _, _, 0, _, _, .cons _ t, h => .cons h t
  | _, _, i + 1, _, _, .cons q t, h => .cons q (t.set i h)
theorem DenL.eraseIdx : ∀ {vs : List V} {ds : List D} (i : Nat), DenL G P H vs ds → DenL G P H (vs.eraseIdx i) (ds.eraseIdx i)
  | _, _, _, .nil => .nil
  | _, _, 0, .cons _ t => t
  | _, _, i + 1, .cons q t => .cons q (t.eraseIdx i)
theorem DenL.dropLast {vs : List V} {ds : List D} (h : DenL G P H vs ds) : DenL G P H vs.dropLast ds.dropLast := by
  rw [List.dropLast_eq_take, List.dropLast_eq_take, h.length]; exact h.take _
/-- the datum of a value is one -/
theorem Den.ne_und {v : V} (h : Den G P H v .und) : False := by cases h
end
end VS

set_option Elab.async false
set_option linter.all false
set_option maxRecDepth 100000
namespace VS
open PySem PySem.Spec PyProof.Rows L2

/-- three lists abreast -/
inductive Tri (R : V → D → List Addr → Prop) : List V → List D → List (List Addr) → Prop
  | nil : Tri R [] [] []
  | cons {v : V} {d : D} {F : List Addr} {vs : List V} {ds : List D} {Fs : List (List Addr)} : R v d F → Tri R vs ds Fs → Tri R (v :: vs) (d :: ds) (F :: Fs)
/-- v denotes d; the lists and dicts down to a depth are owned: they stand at F -/
def OwnK (G : Wd) (P : Addr → Prop) (H : Hp) : Nat → V → D → List Addr → Prop
  | 0, v, d, F => Den G P H v d ∧ F = []
  | n + 1, v, d, F => match d with
    | .lst ds => ∃ a vs Fs, v = .ref a ∧ H a = some (.lst vs) ∧ Tri (OwnK G P H n) vs ds Fs ∧ F = a :: Fs.flatten
    | .dct t ks ds => ∃ a u kv vs Fs, v = .ref a ∧ H a = some u ∧ DicHO G a t u kv ks vs ∧ DenL G P H kv ks ∧ Tri (OwnK G P H n) vs ds Fs ∧ F = a :: Fs.flatten
    | d => Den G P H v d ∧ F = []
/-- neither a list nor a dict -/
def D.flat : D → Bool
  | .lst _ => false
  | .dct .. => false
  | _ => true

section
variable {G : Wd} {P P' P1 P2 : Addr → Prop} {H H' H1 H2 : Hp} {Z Z1 : Addr → Prop}
theorem Tri.imp {R R' : V → D → List Addr → Prop} {vs : List V} {ds : List D} {Fs : List (List Addr)} (t : Tri R vs ds Fs) (h : ∀ v d F, F ∈ Fs → R v d F → R' v d F) : Tri R' vs ds Fs := by
  induction t with
  | nil => exact .nil
  | cons r _ ih => exact .cons (h _ _ _ List.mem_cons_self r) (ih fun v d F m => h v d F (List.mem_cons_of_mem _ m))
theorem Tri.length {R : V → D → List Addr → Prop} {vs : List V} {ds : List D} {Fs : List (List Addr)} (t : Tri R vs ds Fs) : vs.length = ds.length ∧ Fs.length = ds.length := by
  induction t with
  | nil => exact ⟨rfl, rfl⟩
  | cons r _ ih => simp only [List.length_cons]; omega
theorem Tri.get {R : V → D → List Addr → Prop} {vs : List V} {ds : List D} {Fs : List (List Addr)} (t : Tri R vs ds Fs) : ∀ {i : Nat} {d : D}, ds[i]? = some d → ∃ v F, vs[i]? = some v ∧ Fs[i]? = some F ∧ R v d F := by
  induction t with
  | nil => intro i d e; simp at e
  | cons r _ ih =>
    intro i d e
    cases i with
    | zero => simp at e; subst e; exact ⟨_, _, rfl, rfl, r⟩
    | succ i =>
      obtain ⟨v, F, h1, h2, h3⟩ := ih (i := i) (d := d) (by simpa using e)
      exact ⟨v, F, by simpa using h1, by simpa using h2, h3⟩
theorem Tri.append {R : V → D → List Addr → Prop} {vs ws : List V} {ds es : List D} {Fs Gs : List (List Addr)} (t : Tri R vs ds Fs) (u : Tri R ws es Gs) : Tri R (vs ++ ws) (ds ++ es) (Fs ++ Gs) := by
  induction t with
  | nil => exact u
  | cons r _ ih => exact .cons r ih
theorem OwnK.flat {n : Nat} {v : V} {d : D} {F : List Addr} (h : Den G P H v d) (hf : d.flat = true) : OwnK G P H n v d [] := by
  cases n with
  | zero => exact ⟨h, rfl⟩
  | succ n => cases d <;> first | exact ⟨h, rfl⟩ | cases hf
theorem OwnK.of_flat {n : Nat} {v : V} {d : D} {F : List Addr} (h : OwnK G P H n v d F) (hf : d.flat = true) : Den G P H v d ∧ F = [] := by
  cases n with
  | zero => exact h
  | succ n => cases d <;> first | exact h | cases hf
theorem OwnK.isM : ∀ {n : Nat} {v : V} {d : D} {F : List Addr}, OwnK G P H n v d F → ∀ a ∈ F, ∃ u, H a = some u ∧ IsM u
  | 0, _, _, _, h, a, m => by rw [h.2] at m; cases m
  | n + 1, v, d, F, h, a, m => by
    have all : ∀ {vs : List V} {ds : List D} {Fs : List (List Addr)}, Tri (OwnK G P H n) vs ds Fs → ∀ a ∈ Fs.flatten, ∃ u, H a = some u ∧ IsM u := by
      intro vs ds Fs t
      induction t with
      | nil => intro a m; simp at m
      | cons r _ ih =>
        intro a m
        rw [List.flatten_cons, List.mem_append] at m
        exact m.elim (OwnK.isM r a) (ih a)
    cases d with
    | lst ds =>
      obtain ⟨b, vs, Fs, rfl, e, t, rfl⟩ := h
      rcases List.mem_cons.mp m with rfl | m
      · exact ⟨_, e, trivial⟩
      · exact all t a m
    | dct t ks ds =>
      obtain ⟨b, u, kv, vs, Fs, rfl, e, k, _, t, rfl⟩ := h
      rcases List.mem_cons.mp m with rfl | m
      · exact ⟨_, e, k.isM⟩
      · exact all t a m
    | _ => rw [h.2] at m; cases m
theorem mem_flat {a : Addr} {F : List Addr} {Fs : List (List Addr)} (h : F ∈ Fs) (m : a ∈ F) : a ∈ Fs.flatten := List.mem_flatten.mpr ⟨F, h, m⟩
theorem OwnK.ext (E : Ext Z P H P' H') : ∀ {n : Nat} {v : V} {d : D} {F : List Addr}, OwnK G P H n v d F → (∀ a ∈ F, ¬ Z a) → OwnK G P' H' n v d F
  | 0, _, _, _, h, _ => ⟨h.1.ext E, h.2⟩
  | n + 1, v, d, F, h, z => by
    cases d with
    | lst ds =>
      obtain ⟨b, vs, Fs, rfl, e, t, rfl⟩ := h
      exact ⟨b, vs, Fs, rfl, E.frame b _ e (z b List.mem_cons_self), t.imp fun v d F m r => OwnK.ext E r fun a ha => z a (List.mem_cons_of_mem _ (mem_flat m ha)), rfl⟩
    | dct t ks ds =>
      obtain ⟨b, u, kv, vs, Fs, rfl, e, k, q, t, rfl⟩ := h
      exact ⟨b, u, kv, vs, Fs, rfl, E.frame b _ e (z b List.mem_cons_self), k, q.ext E, t.imp fun v d F m r => OwnK.ext E r fun a ha => z a (List.mem_cons_of_mem _ (mem_flat m ha)), rfl⟩
    | _ => exact ⟨h.1.ext E, h.2⟩
mutual
/-- all that is owned becomes shared -/
theorem OwnK.share (E : Ext Z P H P' H') : ∀ {n : Nat} {v : V} {d : D} {F : List Addr}, OwnK G P H n v d F → (∀ a ∈ F, P' a ∧ ∀ u, H a = some u → H' a = some u) → Den G P' H' v d
  | 0, _, _, _, h, _ => h.1.ext E
  | n + 1, v, .lst ds, F, h, z => by
    obtain ⟨b, vs, Fs, rfl, e, t, rfl⟩ := h
    exact .lst (.inl ⟨(z b List.mem_cons_self).1, (z b List.mem_cons_self).2 _ e⟩) (OwnK.shareL E t fun a ha => z a (List.mem_cons_of_mem _ ha))
  | n + 1, v, .dct t ks ds, F, h, z => by
    obtain ⟨b, u, kv, vs, Fs, rfl, e, k, q, t, rfl⟩ := h
    exact .dct (z b List.mem_cons_self).1 ((z b List.mem_cons_self).2 _ e) k (q.ext E) (OwnK.shareL E t fun a ha => z a (List.mem_cons_of_mem _ ha))
  | n + 1, _, .und, _, h, _ => h.1.ext E
  | n + 1, _, .non, _, h, _ => h.1.ext E
  | n + 1, _, .bl _, _, h, _ => h.1.ext E
  | n + 1, _, .int _, _, h, _ => h.1.ext E
  | n + 1, _, .str _, _, h, _ => h.1.ext E
  | n + 1, _, .tup _, _, h, _ => h.1.ext E
theorem OwnK.shareL (E : Ext Z P H P' H') : ∀ {n : Nat} {vs : List V} {ds : List D} {Fs : List (List Addr)}, Tri (OwnK G P H n) vs ds Fs → (∀ a ∈ Fs.flatten, P' a ∧ ∀ u, H a = some u → H' a = some u) → DenL G P' H' vs ds
  | _, _, _, _, .nil, _ => .nil
  | _, _, _, _, .cons r t, z => .cons (OwnK.share E r fun a ha => z a (by rw [List.flatten_cons]; exact List.mem_append_left _ ha)) (OwnK.shareL E t fun a ha => z a (by rw [List.flatten_cons]; exact List.mem_append_right _ ha))
end
/-- read under a wider P -/
theorem OwnK.view {n : Nat} {v : V} {d : D} {F : List Addr} (h : OwnK G P H n v d F) (hF : ∀ a ∈ F, ¬ P a) : Den G (fun a => P a ∨ a ∈ F) H v d :=
  OwnK.share (Ext.share (fun a => a ∈ F) h.isM hF) h fun a ha => ⟨.inr ha, fun _ e => e⟩
theorem OwnK.ne_und {n : Nat} {v : V} {F : List Addr} (h : OwnK G P H n v .und F) : False := by
  cases n with
  | zero => exact h.1.ne_und
  | succ n => exact (show Den G P H v .und ∧ F = [] from h).1.ne_und
/-- children of kind 0 -/
theorem Tri.den {vs : List V} {ds : List D} {Fs : List (List Addr)} (t : Tri (OwnK G P H 0) vs ds Fs) : DenL G P H vs ds ∧ Fs.flatten = [] := by
  induction t with
  | nil => exact ⟨.nil, rfl⟩
  | cons r _ ih => exact ⟨.cons r.1 ih.1, by rw [List.flatten_cons, r.2, ih.2]; rfl⟩
theorem Tri.of_den {vs : List V} {ds : List D} (h : DenL G P H vs ds) : ∃ Fs, Tri (OwnK G P H 0) vs ds Fs ∧ Fs.flatten = [] := by
  induction h using DenL.rec (motive_1 := fun _ _ _ => True) with
  | nil => exact ⟨[], .nil, rfl⟩
  | cons h _ _ ih =>
    obtain ⟨Fs, t, e⟩ := ih
    exact ⟨[] :: Fs, .cons ⟨h, rfl⟩ t, by rw [List.flatten_cons, e]; rfl⟩
  | _ => trivial
theorem OwnK.lst1 {a : Addr} {vs : List V} {ds : List D} (e : H a = some (.lst vs)) (h : DenL G P H vs ds) : OwnK G P H 1 (.ref a) (.lst ds) [a] := by
  obtain ⟨Fs, t, e2⟩ := Tri.of_den h
  exact ⟨a, vs, Fs, rfl, e, t, by rw [e2]⟩
theorem OwnK.of1 {v : V} {ds : List D} {F : List Addr} (h : OwnK G P H 1 v (.lst ds) F) : ∃ a vs, v = .ref a ∧ H a = some (.lst vs) ∧ DenL G P H vs ds ∧ F = [a] := by
  obtain ⟨a, vs, Fs, rfl, e, t, rfl⟩ := h
  exact ⟨a, vs, rfl, e, t.den.1, by rw [t.den.2]⟩

/-! ### one frame's slots -/
structure Rep (G : Wd) (P : Addr → Prop) (H : Hp) (σ : L2.St) (ρ : List D) (κ : List Nat) (Fs : Nat → List Addr) : Prop where
  len : σ.length = ρ.length
  lenk : κ.length = ρ.length
  at_ : ∀ i d, ρ[i]? = some d → d ≠ .und → ∃ v, σ[i]? = some (some v) ∧ OwnK G P H (κ.getD i 0) v d (Fs i)
  un : ∀ i, (∀ d, ρ[i]? = some d → d = .und) → Fs i = []
  dj : ∀ i j a, a ∈ Fs i → a ∈ Fs j → i = j
  nd : ∀ i, (Fs i).Nodup
  np : ∀ i a, a ∈ Fs i → ¬ P a
  pt : ∀ a, P a → ∃ u, H a = some u ∧ IsM u
/-- what the slots T own -/
def Zt (T : List Nat) (Fs : Nat → List Addr) : Addr → Prop := fun a => ∃ i, i ∈ T ∧ a ∈ Fs i
def setF (Fs : Nat → List Addr) (i : Nat) (F : List Addr) : Nat → List Addr := fun j => if j = i then F else Fs j
theorem setF_same {Fs : Nat → List Addr} {i : Nat} {F : List Addr} : setF Fs i F i = F := by unfold setF; rw [if_pos rfl]
theorem setF_ne {Fs : Nat → List Addr} {i j : Nat} {F : List Addr} (h : j ≠ i) : setF Fs i F j = Fs j := by unfold setF; rw [if_neg h]
variable {σ : L2.St} {ρ : List D} {κ : List Nat} {Fs : Nat → List Addr}
theorem Rep.some (R : Rep G P H σ ρ κ Fs) {i : Nat} {a : Addr} (m : a ∈ Fs i) : ∃ d v, ρ[i]? = .some d ∧ d ≠ .und ∧ σ[i]? = .some (.some v) ∧ OwnK G P H (κ.getD i 0) v d (Fs i) := by
  cases e : ρ[i]? with
  | none => rw [R.un i (by intro d h; rw [e] at h; cases h)] at m; cases m
  | some d =>
    by_cases hd : d = .und
    · rw [R.un i (by intro d' h; rw [e] at h; cases h; exact hd)] at m; cases m
    · obtain ⟨v, h1, h2⟩ := R.at_ i d e hd
      exact ⟨d, v, rfl, hd, h1, h2⟩
theorem Rep.isM (R : Rep G P H σ ρ κ Fs) {i : Nat} {a : Addr} (m : a ∈ Fs i) : ∃ u, H a = .some u ∧ IsM u := by
  obtain ⟨_, _, _, _, _, h⟩ := R.some m
  exact h.isM a m
theorem Rep.zm (R : Rep G P H σ ρ κ Fs) (T : List Nat) : ∀ a, Zt T Fs a → ∃ u, H a = .some u ∧ IsM u := fun _ ⟨_, _, m⟩ => R.isM m
theorem Rep.zp (R : Rep G P H σ ρ κ Fs) (T : List Nat) : ∀ a, Zt T Fs a → ¬ P a := fun _ ⟨_, _, m⟩ => R.np _ _ m
theorem Rep.fresh (R : Rep G P H σ ρ κ Fs) {a : Addr} (h : H a = none) : ¬ P a ∧ ∀ i, a ∉ Fs i :=
  ⟨fun p => (by obtain ⟨u, e, _⟩ := R.pt a p; rw [h] at e; cases e), fun i m => (by obtain ⟨u, e, _⟩ := R.isM m; rw [h] at e; cases e)⟩
theorem Rep.ext (R : Rep G P H σ ρ κ Fs) (E : Ext Z P H P' H') (hz : ∀ i a, a ∈ Fs i → ¬ Z a) : Rep G P' H' σ ρ κ Fs :=
  ⟨R.len, R.lenk, fun i d e hd => let ⟨v, h1, h2⟩ := R.at_ i d e hd; ⟨v, h1, h2.ext E (hz i)⟩, R.un, R.dj, R.nd, fun i a m p => by
    rcases E.newP a p with q | q | q
    · exact R.np i a m q
    · obtain ⟨u, e, _⟩ := R.isM m; rw [q] at e; cases e
    · exact hz i a m q, E.pt R.pt⟩
/-- a slot stored -/
theorem Rep.set (R : Rep G P H σ ρ κ Fs) {i k : Nat} {v : V} {d : D} {F : List Addr} (hk : i < κ.length) (o : OwnK G P H k v d F) (nd : F.Nodup) (np : ∀ a ∈ F, ¬ P a) (dj : ∀ j, j ≠ i → ∀ a ∈ F, a ∉ Fs j) :
    Rep G P H (σ.set i (.some v)) (ρ.set i d) (κ.set i k) (setF Fs i F) := by
  have hi : i < ρ.length := R.lenk ▸ hk
  refine ⟨by simp [R.len], by simp [R.lenk], fun j e hj hu => ?_, fun j h => ?_, fun j l a h1 h2 => ?_, fun j => ?_, fun j a m => ?_, R.pt⟩
  · by_cases q : j = i
    · subst q
      rw [List.getElem?_set_self hi] at hj
      cases hj
      refine ⟨v, by rw [List.getElem?_set_self (by rw [R.len]; exact hi)], ?_⟩
      rw [setF_same, List.getD_eq_getElem?_getD, List.getElem?_set_self hk]
      exact o
    · rw [List.getElem?_set_ne (Ne.symm q)] at hj
      obtain ⟨u, h1, h2⟩ := R.at_ j e hj hu
      refine ⟨u, by rw [List.getElem?_set_ne (Ne.symm q)]; exact h1, ?_⟩
      rw [setF_ne q, List.getD_eq_getElem?_getD, List.getElem?_set_ne (Ne.symm q), ← List.getD_eq_getElem?_getD]
      exact h2
  · by_cases q : j = i
    · subst q
      have := h d (List.getElem?_set_self hi)
      subst this
      exact o.ne_und.elim
    · rw [setF_ne q]
      exact R.un j fun d' e => h d' (by rw [List.getElem?_set_ne (Ne.symm q)]; exact e)
  · by_cases q : j = i
    · by_cases r : l = i
      · rw [q, r]
      · rw [q, setF_same] at h1
        rw [setF_ne r] at h2
        exact absurd h2 (dj l r a h1)
    · by_cases r : l = i
      · rw [r, setF_same] at h2
        rw [setF_ne q] at h1
        exact absurd h1 (dj j q a h2)
      · rw [setF_ne q] at h1
        rw [setF_ne r] at h2
        exact R.dj j l a h1 h2
  · by_cases q : j = i
    · rw [q, setF_same]; exact nd
    · rw [setF_ne q]; exact R.nd j
  · by_cases q : j = i
    · rw [q, setF_same] at m; exact np a m
    · rw [setF_ne q] at m; exact R.np j a m
/-- a slot's datum changed in place: the same value -/
theorem Rep.put (R : Rep G P H σ ρ κ Fs) {i : Nat} {v : V} {d : D} {F : List Addr} (hv : σ[i]? = .some (.some v)) (hi : i < ρ.length) (o : OwnK G P H (κ.getD i 0) v d F) (nd : F.Nodup) (np : ∀ a ∈ F, ¬ P a) (dj : ∀ j, j ≠ i → ∀ a ∈ F, a ∉ Fs j) :
    Rep G P H σ (ρ.set i d) κ (setF Fs i F) := by
  refine ⟨by simp [R.len], by simp [R.lenk], fun j e hj hu => ?_, fun j h => ?_, fun j l a h1 h2 => ?_, fun j => ?_, fun j a m => ?_, R.pt⟩
  · by_cases q : j = i
    · subst q
      rw [List.getElem?_set_self hi] at hj
      cases hj
      exact ⟨v, hv, by rw [setF_same]; exact o⟩
    · rw [List.getElem?_set_ne (Ne.symm q)] at hj
      obtain ⟨u, h1, h2⟩ := R.at_ j e hj hu
      exact ⟨u, h1, by rw [setF_ne q]; exact h2⟩
  · by_cases q : j = i
    · subst q
      have := h d (List.getElem?_set_self hi)
      subst this
      exact o.ne_und.elim
    · rw [setF_ne q]
      exact R.un j fun d' e => h d' (by rw [List.getElem?_set_ne (Ne.symm q)]; exact e)
  · by_cases q : j = i
    · by_cases r : l = i
      · rw [q, r]
      · rw [q, setF_same] at h1
        rw [setF_ne r] at h2
        exact absurd h2 (dj l r a h1)
    · by_cases r : l = i
      · rw [r, setF_same] at h2
        rw [setF_ne q] at h1
        exact absurd h1 (dj j q a h2)
      · rw [setF_ne q] at h1
        rw [setF_ne r] at h2
        exact R.dj j l a h1 h2
  · by_cases q : j = i
    · rw [q, setF_same]; exact nd
    · rw [setF_ne q]; exact R.nd j
  · by_cases q : j = i
    · rw [q, setF_same] at m; exact np a m
    · rw [setF_ne q] at m; exact R.np j a m
/-- a slot forgotten -/
theorem Rep.kill (R : Rep G P H σ ρ κ Fs) (i k : Nat) : Rep G P H σ (ρ.set i .und) (κ.set i k) (setF Fs i []) := by
  refine ⟨by simp [R.len], by simp [R.lenk], fun j e hj hu => ?_, fun j h => ?_, fun j l a h1 h2 => ?_, fun j => ?_, fun j a m => ?_, R.pt⟩
  · by_cases q : j = i
    · subst q
      by_cases hl : j < ρ.length
      · rw [List.getElem?_set_self hl] at hj
        cases hj
        exact absurd rfl hu
      · rw [List.getElem?_eq_none (by simpa using hl)] at hj
        cases hj
    · rw [List.getElem?_set_ne (Ne.symm q)] at hj
      obtain ⟨u, h1, h2⟩ := R.at_ j e hj hu
      refine ⟨u, h1, ?_⟩
      rw [setF_ne q, List.getD_eq_getElem?_getD, List.getElem?_set_ne (Ne.symm q), ← List.getD_eq_getElem?_getD]
      exact h2
  · by_cases q : j = i
    · rw [q, setF_same]
    · rw [setF_ne q]
      exact R.un j fun d' e => h d' (by rw [List.getElem?_set_ne (Ne.symm q)]; exact e)
  · by_cases q : j = i
    · rw [q, setF_same] at h1; cases h1
    · by_cases r : l = i
      · rw [r, setF_same] at h2; cases h2
      · rw [setF_ne q] at h1
        rw [setF_ne r] at h2
        exact R.dj j l a h1 h2
  · by_cases q : j = i
    · rw [q, setF_same]; exact List.nodup_nil
    · rw [setF_ne q]; exact R.nd j
  · by_cases q : j = i
    · rw [q, setF_same] at m; cases m
    · rw [setF_ne q] at m; exact R.np j a m
/-- a slot becomes shared -/
theorem Rep.freeze (R : Rep G P H σ ρ κ Fs) (i : Nat) : Rep G (fun a => P a ∨ a ∈ Fs i) H σ ρ (κ.set i 0) (setF Fs i []) ∧ Ext (fun a => a ∈ Fs i) P H (fun a => P a ∨ a ∈ Fs i) H := by
  have E : Ext (fun a => a ∈ Fs i) P H (fun a => P a ∨ a ∈ Fs i) H := Ext.share _ (fun a m => R.isM m) (R.np i)
  refine ⟨⟨R.len, by simp [R.lenk], fun j d e hd => ?_, fun j h => ?_, fun j l a h1 h2 => ?_, fun j => ?_, fun j a m => ?_, E.pt R.pt⟩, E⟩
  · obtain ⟨v, h1, h2⟩ := R.at_ j d e hd
    refine ⟨v, h1, ?_⟩
    by_cases q : j = i
    · subst q
      have hd : (κ.set j 0).getD j 0 = 0 := by
        rw [List.getD_eq_getElem?_getD]
        by_cases hk : j < κ.length
        · rw [List.getElem?_set_self hk]; rfl
        · rw [List.getElem?_eq_none (by simpa using hk)]; rfl
      rw [setF_same, hd]
      exact ⟨OwnK.share E h2 fun a ha => ⟨.inr ha, fun _ e => e⟩, rfl⟩
    · rw [setF_ne q, List.getD_eq_getElem?_getD, List.getElem?_set_ne (Ne.symm q), ← List.getD_eq_getElem?_getD]
      exact h2.ext E fun a ha hb => q (R.dj j i a ha hb)
  · by_cases q : j = i
    · rw [q, setF_same]
    · rw [setF_ne q]; exact R.un j h
  · by_cases q : j = i
    · rw [q, setF_same] at h1; cases h1
    · by_cases r : l = i
      · rw [r, setF_same] at h2; cases h2
      · rw [setF_ne q] at h1
        rw [setF_ne r] at h2
        exact R.dj j l a h1 h2
  · by_cases q : j = i
    · rw [q, setF_same]; exact List.nodup_nil
    · rw [setF_ne q]; exact R.nd j
  · by_cases q : j = i
    · rw [q, setF_same] at m; cases m
    · rw [setF_ne q] at m
      rintro (p | p)
      · exact R.np j a m p
      · exact q (R.dj j i a m p)
end
end VS

set_option Elab.async false
set_option linter.all false
set_option maxRecDepth 100000
namespace VS
open PySem PySem.Spec PyProof.Rows L2

/-- the world of a context -/
abbrev gd (X : Cx) : Wd := ⟨X.K, X.prog, X.w⟩
abbrev Sem0 := List D → Option (D × List D)
/-- what follows an expression: its value v of datum d, new and owned at F; T: the slots that it may have changed -/
def Res (G : Wd) (T κ : List Nat) (k : Nat) (P : Addr → Prop) (H : Hp) (Fs : Nat → List Addr) (σ : L2.St) (ρ ρ' : List D) (d : D) (Q : VK) : Prop :=
  ∀ (v : V) (H' : Hp) (P' : Addr → Prop) (F : List Addr) (Fs' : Nat → List Addr), Rep G P' H' σ ρ' κ Fs' → OwnK G P' H' k v d F → F.Nodup → (∀ a ∈ F, ¬ P' a ∧ H a = none ∧ ∀ i, a ∉ Fs' i) →
    Ext (Zt T Fs) P H P' H' → (∀ i, i ∉ T → Fs' i = Fs i ∧ ρ'[i]? = ρ[i]?) → (∀ i a, a ∈ Fs' i → a ∈ Fs i ∨ H a = none) → Q v H'
def tV (G : Wd) (T κ : List Nat) (k : Nat) (f : Sem0) : TE := fun σ H Q => ∃ P ρ Fs d ρ', Rep G P H σ ρ κ Fs ∧ f ρ = some (d, ρ') ∧ Res G T κ k P H Fs σ ρ ρ' d Q
/-- an operand: a slot's own value, or an expression's -/
structure Od where
  al : Option Nat
  T : List Nat
  k : Nat
  f : Sem0
def Od.te (G : Wd) (κ : List Nat) (o : Od) : TE := match o.al with
  | some i => tVar i
  | none => tV G o.T κ o.k o.f
/-- a slot's datum -/
def rd (i : Nat) : Sem0 := fun ρ => match ρ[i]? with
  | some .und => none
  | some d => some (d, ρ)
  | none => none
theorem rd_some {i : Nat} {ρ ρ' : List D} {d : D} (h : rd i ρ = some (d, ρ')) : ρ[i]? = some d ∧ d ≠ .und ∧ ρ' = ρ := by
  unfold rd at h
  cases e : ρ[i]? with
  | none => rw [e] at h; cases h
  | some d' =>
    rw [e] at h
    cases d' <;> first | (cases h; exact ⟨rfl, fun z => (by cases z), rfl⟩) | cases h
theorem rd_of {i : Nat} {ρ : List D} {d : D} (h : ρ[i]? = some d) (hu : d ≠ .und) : rd i ρ = some (d, ρ) := by
  unfold rd
  rw [h]
  cases d <;> first | rfl | exact absurd rfl hu
def odS (κ : List Nat) (i : Nat) : Od := ⟨some i, [], κ.getD i 0, rd i⟩
structure Od.Wf (κ : List Nat) (o : Od) : Prop where
  al : ∀ i, o.al = some i → o = odS κ i
def seqF : List Od → List D → Option (List D × List D)
  | [], ρ => some ([], ρ)
  | o :: os, ρ => (o.f ρ).bind fun p => (seqF os p.2).bind fun q => some (p.1 :: q.1, q.2)
def Ts : List Od → List Nat
  | [] => []
  | o :: os => o.T ++ Ts os
/-- a slot that is read as it stands is not changed by what is asked behind it -/
def WfSeq (κ : List Nat) : List Od → Prop
  | [] => True
  | o :: os => o.Wf κ ∧ (∀ i, o.al = some i → i ∉ Ts os) ∧ WfSeq κ os
def argsT (G : Wd) (κ : List Nat) : List Od → TA
  | [] => tNil
  | o :: os => tCons (o.te G κ) (argsT G κ os)
inductive Quad (R : Od → V → D → List Addr → Prop) : List Od → List V → List D → List (List Addr) → Prop
  | nil : Quad R [] [] [] []
  | cons {o : Od} {v : V} {d : D} {F : List Addr} {os : List Od} {vs : List V} {ds : List D} {Fs : List (List Addr)} : R o v d F → Quad R os vs ds Fs → Quad R (o :: os) (v :: vs) (d :: ds) (F :: Fs)
/-- what is known of an operand -/
def OdAt (G : Wd) (P : Addr → Prop) (H : Hp) (σ : L2.St) (Fs : Nat → List Addr) (o : Od) (v : V) (d : D) (F : List Addr) : Prop :=
  OwnK G P H o.k v d F ∧ match o.al with
    | some i => F = Fs i ∧ σ[i]? = some (some v)
    | none => ∀ a ∈ F, ¬ P a ∧ ∀ i, a ∉ Fs i
def temps : List Od → List (List Addr) → List Addr
  | o :: os, F :: Fs => match o.al with
    | some _ => temps os Fs
    | none => F ++ temps os Fs
  | _, _ => []
def ResA (G : Wd) (os : List Od) (κ : List Nat) (P : Addr → Prop) (H : Hp) (Fs : Nat → List Addr) (σ : L2.St) (ρ ρ' : List D) (ds : List D) (Q : List V → Hp → Prop) : Prop :=
  ∀ (vs : List V) (H' : Hp) (P' : Addr → Prop) (Gs : List (List Addr)) (Fs' : Nat → List Addr), Rep G P' H' σ ρ' κ Fs' → Quad (OdAt G P' H' σ Fs') os vs ds Gs → (temps os Gs).Nodup → (∀ a ∈ temps os Gs, H a = none) →
    Ext (Zt (Ts os) Fs) P H P' H' → (∀ i, i ∉ Ts os → Fs' i = Fs i ∧ ρ'[i]? = ρ[i]?) → (∀ i a, a ∈ Fs' i → a ∈ Fs i ∨ H a = none) → Q vs H'
section
variable {G : Wd} {P P' : Addr → Prop} {H H' : Hp} {κ : List Nat}
theorem Zt.step {T U : List Nat} {Fs Fs1 : Nat → List Addr} (h : ∀ i a, a ∈ Fs1 i → a ∈ Fs i ∨ H a = none) : ∀ c, Zt U Fs1 c → Zt (T ++ U) Fs c ∨ H c = none := fun c ⟨i, hi, m⟩ =>
  (h i c m).imp (fun q => ⟨i, List.mem_append_right _ hi, q⟩) id
theorem Zt.left {T U : List Nat} {Fs : Nat → List Addr} : ∀ c, Zt T Fs c → Zt (T ++ U) Fs c := fun _ ⟨i, hi, m⟩ => ⟨i, List.mem_append_left _ hi, m⟩
theorem back_none {Z : Addr → Prop} (E : Ext Z P H P' H') {a : Addr} (h : H' a = none) : H a = none := by
  cases e : H a with
  | none => rfl
  | some o => exact absurd h (E.there a (by rw [e]; simp))
theorem args_ok : ∀ (os : List Od) {P : Addr → Prop} {H : Hp} {σ : L2.St} {ρ ρ' ds : List D} {Fs : Nat → List Addr} {Q : List V → Hp → Prop}, WfSeq κ os → Rep G P H σ ρ κ Fs → seqF os ρ = some (ds, ρ') → ResA G os κ P H Fs σ ρ ρ' ds Q → argsT G κ os σ H Q
  | [], P, H, σ, ρ, ρ', ds, Fs, Q, _, R, e, q => by
    cases e
    exact q [] H P [] Fs R .nil List.nodup_nil (fun a m => by cases m) (Ext.refl (R.zm _) (R.zp _)) (fun i _ => ⟨rfl, rfl⟩) fun i a m => .inl m
  | o :: os, P, H, σ, ρ, ρ', ds, Fs, Q, wf, R, e, q => by
    obtain ⟨w1, w2, w3⟩ := wf
    unfold seqF at e
    obtain ⟨⟨d, ρ1⟩, e1, e⟩ := Option.bind_eq_some_iff.mp e
    obtain ⟨⟨ds', ρ2⟩, e2, e⟩ := Option.bind_eq_some_iff.mp e
    cases e
    show (o.te G κ) σ H fun x H1 => argsT G κ os σ H1 fun xs H2 => Q (x :: xs) H2
    cases ha : o.al with
    | some i =>
      have ho := w1.al i ha
      subst ho
      obtain ⟨e3, hu, rfl⟩ := rd_some e1
      obtain ⟨v, hv, ow⟩ := R.at_ i d e3 hu
      have hi := w2 i ha
      refine ⟨v, hv, args_ok os w3 R e2 fun vs H' P' Gs Fs' R' qd nd fr E st gr => ?_⟩
      obtain ⟨f1, f2⟩ := st i hi
      obtain ⟨v', hv', ow'⟩ := R'.at_ i d (by rw [f2]; exact e3) hu
      rw [hv] at hv'
      cases hv'
      exact q (v :: vs) H' P' (Fs' i :: Gs) Fs' R' (.cons ⟨ow', rfl, hv⟩ qd) nd fr E st gr
    | none =>
      unfold Od.te
      rw [ha]
      refine ⟨P, ρ, Fs, d, ρ1, R, e1, fun v H1 P1 F Fs1 R1 ow nd fr E st gr => ?_⟩
      refine args_ok os w3 R1 e2 fun vs H' P' Gs Fs' R' qd nd' fr' E' st' gr' => ?_
      have hz : ∀ a ∈ F, ¬ Zt (Ts os) Fs1 a := fun a m ⟨i, _, z⟩ => (fr a m).2.2 i z
      have hF : ∀ a ∈ F, ¬ P' a ∧ ∀ i, a ∉ Fs' i := fun a m => by
        obtain ⟨u, e5, _⟩ := ow.isM a m
        refine ⟨fun p => ?_, fun i z => ?_⟩
        · rcases E'.newP a p with p | p | p
          · exact (fr a m).1 p
          · rw [e5] at p; cases p
          · exact hz a m p
        · rcases gr' i a z with z | z
          · exact (fr a m).2.2 i z
          · rw [e5] at z; cases z
      have et : temps (o :: os) (F :: Gs) = F ++ temps os Gs := by conv => lhs; unfold temps; rw [ha]
      refine q (v :: vs) H' P' (F :: Gs) Fs' R' (.cons ⟨ow.ext E' hz, by rw [ha]; exact hF⟩ qd) ?_ ?_ ?_ ?_ ?_
      · rw [et]
        refine List.nodup_append.mpr ⟨nd, nd', fun a m b m' e => ?_⟩
        subst e
        obtain ⟨u, e5, _⟩ := ow.isM a m
        rw [fr' a m'] at e5; cases e5
      · rw [et]
        intro a m
        rcases List.mem_append.mp m with m | m
        · exact (fr a m).2.1
        · exact back_none E (fr' a m)
      · exact (E.more (Zt.left) (R.zm _) (R.zp _)).trans E' (Zt.step gr)
      · intro i hi
        have hi' : i ∉ o.T ∧ i ∉ Ts os := by
          rw [show Ts (o :: os) = o.T ++ Ts os from rfl, List.mem_append, not_or] at hi
          exact hi
        obtain ⟨a1, a2⟩ := st i hi'.1
        obtain ⟨b1, b2⟩ := st' i hi'.2
        exact ⟨b1.trans a1, b2.trans a2⟩
      · intro i a m
        rcases gr' i a m with m | m
        · exact gr i a m
        · exact .inr (back_none E m)
end
/-- an operation on values: what it asks (r), what it yields (g), of kind k -/
def OpS (G : Wd) (os : List Od) (k : Nat) (g : List D → Option D) (r : List V → Hp → VK → Prop) : Prop :=
  ∀ (κ : List Nat) (P : Addr → Prop) (H : Hp) (σ : L2.St) (ρ : List D) (Fs : Nat → List Addr) (vs : List V) (ds : List D) (Gs : List (List Addr)) (d : D) (Q : VK), Rep G P H σ ρ κ Fs → Quad (OdAt G P H σ Fs) os vs ds Gs → (temps os Gs).Nodup → g ds = some d →
    (∀ v H' F, OwnK G P H' k v d F → F.Nodup → (∀ a ∈ F, H a = none ∨ a ∈ temps os Gs) → (∀ a o, H a = some o → H' a = some o) → Q v H') → r vs H Q
def opF (g : List D → Option D) (os : List Od) : Sem0 := fun ρ => (seqF os ρ).bind fun p => (g p.1).bind fun d => some (d, p.2)
section
variable {G : Wd} {P P' : Addr → Prop} {H H' : Hp} {κ : List Nat}
theorem temps_ok {σ : L2.St} {Fs : Nat → List Addr} : ∀ {os : List Od} {vs : List V} {ds : List D} {Gs : List (List Addr)}, Quad (OdAt G P H σ Fs) os vs ds Gs → ∀ a ∈ temps os Gs, (¬ P a ∧ ∀ i, a ∉ Fs i) ∧ ∃ u, H a = some u ∧ IsM u
  | _, _, _, _, .nil, a, m => by cases m
  | o :: os, _, _, _, .cons (F := F) r q, a, m => by
    unfold temps at m
    cases ha : o.al with
    | some i => rw [ha] at m; exact temps_ok q a m
    | none =>
      rw [ha] at m
      rcases List.mem_append.mp m with m | m
      · have := r.2
        rw [ha] at this
        exact ⟨this a m, r.1.isM a m⟩
      · exact temps_ok q a m
/-- the whole operation -/
theorem op_ok {os : List Od} {k : Nat} {g : List D → Option D} {r : List V → Hp → VK → Prop} (wf : WfSeq κ os) (O : OpS G os k g r) {σ : L2.St} {H : Hp} {Q : VK} (h : tV G (Ts os) κ k (opF g os) σ H Q) : argsT G κ os σ H fun vs H1 => r vs H1 Q := by
  obtain ⟨P, ρ, Fs, d, ρ', R, e, q⟩ := h
  unfold opF at e
  obtain ⟨⟨ds, ρ1⟩, e1, e⟩ := Option.bind_eq_some_iff.mp e
  obtain ⟨d', e2, e⟩ := Option.bind_eq_some_iff.mp e
  cases e
  refine args_ok os wf R e1 fun vs H1 P1 Gs Fs1 R1 qd nd fr E st gr => ?_
  refine O κ P1 H1 σ ρ1 Fs1 vs ds Gs d Q R1 qd nd e2 fun v H2 F ow ndF hF keep => ?_
  have E2 : Ext (fun _ => False) P1 H1 P1 H2 := Ext.new keep
  have R2 := R1.ext E2 fun _ _ _ z => z
  refine q v H2 P1 F Fs1 R2 ow ndF (fun a m => ?_) (E.trans E2 fun _ z => z.elim) st gr
  rcases hF a m with z | z
  · obtain ⟨p, f⟩ := R1.fresh z
    exact ⟨p, back_none E z, f⟩
  · obtain ⟨⟨p, f⟩, _⟩ := temps_ok qd a z
    exact ⟨p, fr a z, f⟩
end
theorem _root_.L2.PE.imp {X : Cx} {e : Expr} {t t' : TE} (h : PE X e t) (i : ∀ σ H Q, t' σ H Q → t σ H Q) : PE X e t' := ⟨fun pins s σ H Q I w => h.run pins s σ H Q I (i σ H Q w)⟩
/-- a slot of kind 0 in the place of an expression -/
theorem te_of_rd {G : Wd} {κ : List Nat} {i : Nat} (hk : κ.getD i 0 = 0) {σ : L2.St} {H : Hp} {Q : VK} (h : tV G [] κ 0 (rd i) σ H Q) : tVar i σ H Q := by
  obtain ⟨P, ρ, Fs, d, ρ', R, e, q⟩ := h
  obtain ⟨e3, hu, rfl⟩ := rd_some e
  obtain ⟨v, hv, ow⟩ := R.at_ i d e3 hu
  rw [hk] at ow
  refine ⟨v, hv, q v H P [] Fs R ⟨ow.1, rfl⟩ List.nodup_nil (fun a m => by cases m) (Ext.refl (R.zm _) (R.zp _)) (fun i _ => ⟨rfl, rfl⟩) fun i a m => .inl m⟩
end VS

set_option Elab.async false
set_option linter.all false
set_option maxRecDepth 100000
/-! Statements over data: frames, ends, the rules. -/
namespace VS
open PySem PySem.Spec PyProof.Rows L2

/-- a call's frame at its entry: Φ: the parameters that are changed in place -/
structure Fm where
  Φ : List Nat
  κ0 : List Nat
  σ0 : L2.St
  P0 : Addr → Prop
  H0 : Hp
  Fs0 : Nat → List Addr
  /-- points of the past whose data still stand -/
  mks : List ((Addr → Prop) × Hp)
/-- what stays true of the data -/
def Late (G : Wd) (P : Addr → Prop) (H : Hp) (P' : Addr → Prop) (H' : Hp) : Prop := ∀ v d, Den G P H v d → Den G P' H' v d
theorem Late.refl {G : Wd} {P : Addr → Prop} {H : Hp} : Late G P H P H := fun _ _ h => h
theorem Late.trans {G : Wd} {P P1 P2 : Addr → Prop} {H H1 H2 : Hp} (a : Late G P H P1 H1) (b : Late G P1 H1 P2 H2) : Late G P H P2 H2 := fun v d h => b v d (a v d h)
theorem Ext.late {G : Wd} {Z P P' : Addr → Prop} {H H' : Hp} (E : Ext Z P H P' H') : Late G P H P' H' := fun _ _ h => h.ext E
structure Fm.At (M : Fm) (G : Wd) (P : Addr → Prop) (H : Hp) (σ : L2.St) (κ : List Nat) (Fs : Nat → List Addr) : Prop where
  ext : Ext (Zt M.Φ M.Fs0) M.P0 M.H0 P H
  same : ∀ i, i ∈ M.Φ → σ[i]? = M.σ0[i]?
  kin : ∀ i, i ∈ M.Φ → κ.getD i 0 = M.κ0.getD i 0
  own : ∀ i a, a ∈ Fs i → (i ∈ M.Φ ∧ a ∈ M.Fs0 i) ∨ M.H0 a = none
  late : ∀ m, m ∈ M.mks → Late G m.1 m.2 P H
/-- how a block ends -/
inductive Out where
  | nx (ρ : List D) | bk (ρ : List D) | ct (ρ : List D) | rt (d : D) (ρ : List D)
abbrev SemS := List D → Option Out
def EndN (G : Wd) (M : Fm) (κ : List Nat) (ρ' : List D) (N : L2.St → Hp → Prop) : Prop := ∀ σ' H' P' Fs', Rep G P' H' σ' ρ' κ Fs' → M.At G P' H' σ' κ Fs' → N σ' H'
def EndR (G : Wd) (M : Fm) (k : Nat) (d : D) (ρ' : List D) (N : VK) : Prop := ∀ v σ' H' P' Fs' κ' F, Rep G P' H' σ' ρ' κ' Fs' → M.At G P' H' σ' κ' Fs' → OwnK G P' H' k v d F → F.Nodup → (∀ a ∈ F, ¬ P' a ∧ M.H0 a = none ∧ ∀ i, a ∉ Fs' i) → N v H'
def OutE (G : Wd) (M : Fm) (κ κb : List Nat) (k : Nat) (o : Out) (E : Ends) : Prop := match o with
  | .nx ρ => EndN G M κ ρ E.nx
  | .bk ρ => EndN G M κb ρ E.bk
  | .ct ρ => EndN G M κb ρ E.ct
  | .rt d ρ => EndR G M k d ρ E.rt
def tS (G : Wd) (Φ κ κ' κb : List Nat) (k : Nat) (s : SemS) : TS := fun E σ H => ∃ (M : Fm) (P : Addr → Prop) (ρ : List D) (Fs : Nat → List Addr) (o : Out), M.Φ = Φ ∧ Rep G P H σ ρ κ Fs ∧ M.At G P H σ κ Fs ∧ s ρ = some o ∧ OutE G M κ' κb k o E
/-- a test -/
def tVT (G : Wd) (T κ : List Nat) (f : List D → Option (Bool × List D)) : TT := fun σ H Q => ∃ P ρ Fs b ρ', Rep G P H σ ρ κ Fs ∧ f ρ = some (b, ρ') ∧
  ∀ (H' : Hp) (P' : Addr → Prop) (Fs' : Nat → List Addr), Rep G P' H' σ ρ' κ Fs' → Ext (Zt T Fs) P H P' H' → (∀ i, i ∉ T → Fs' i = Fs i ∧ ρ'[i]? = ρ[i]?) → (∀ i a, a ∈ Fs' i → a ∈ Fs i ∨ H a = none) → Q b H'
theorem _root_.L2.PSs.imp {X : Cx} {st : List Stmt} {t t' : TS} (h : PSs X st t) (i : ∀ E σ H, t' E σ H → t E σ H) : PSs X st t' := ⟨fun pins s σ H D I w => h.run pins s σ H D I (i D σ H w)⟩
theorem _root_.L2.PS.imp {X : Cx} {st : Stmt} {t t' : TS} (h : PS X st t) (i : ∀ E σ H, t' E σ H → t E σ H) : PS X st t' := ⟨fun pins s σ H D I w => h.run pins s σ H D I (i D σ H w)⟩
theorem _root_.L2.PT.imp {X : Cx} {e : Expr} {t t' : TT} (h : PT X e t) (i : ∀ σ H Q, t' σ H Q → t σ H Q) : PT X e t' := ⟨fun pins s σ H Q I w => h.run pins s σ H Q I (i σ H Q w)⟩
theorem _root_.L2.PTs.imp {X : Cx} {e : List Expr} {t t' : TT} (h : PTs X e t) (i : ∀ σ H Q, t' σ H Q → t σ H Q) : PTs X e t' := ⟨fun pins s σ H Q I w => h.run pins s σ H Q I (i σ H Q w)⟩
theorem _root_.L2.PG.imp {X : Cx} {e : Expr} {t t' : TG} (h : PG X e t) (i : ∀ v σ H Q, t' v σ H Q → t v σ H Q) : PG X e t' := ⟨fun pins s σ H v u Q I r w => h.run pins s σ H v u Q I r (i v σ H Q w)⟩
theorem _root_.L2.PI.imp {X : Cx} {tg e : Expr} {t t' : TI} (h : PI X tg e t) (i : ∀ σ H Q, t' σ H Q → t σ H Q) : PI X tg e t' := ⟨fun pins s σ H Q I w => h.run pins s σ H Q I (i σ H Q w)⟩
section
variable {G : Wd} {M : Fm} {P P' : Addr → Prop} {H H' : Hp} {σ : L2.St} {ρ ρ' : List D} {κ κ' κb κ1 T U Φ : List Nat} {Fs Fs' : Nat → List Addr} {k : Nat}
theorem ne_in {L : List Nat} {i j : Nat} (hj : j ∈ L) (hi : i ∉ L) : i ≠ j := fun e => hi (by rw [e]; exact hj)
/-- a step within an expression -/
theorem Fm.At.step (A : M.At G P H σ κ Fs) (E : Ext (Zt T Fs) P H P' H') (gr : ∀ i a, a ∈ Fs' i → a ∈ Fs i ∨ H a = none) : M.At G P' H' σ κ Fs' :=
  ⟨A.ext.trans E fun c ⟨i, hi, m⟩ => (A.own i c m).imp (fun z => ⟨i, z.1, z.2⟩) id, A.same, A.kin, fun i a m => by
    rcases gr i a m with m | m
    · exact A.own i a m
    · exact .inr (back_none A.ext m), fun m hm => (A.late m hm).trans E.late⟩
theorem Fm.At.fresh (A : M.At G P H σ κ Fs) {a : Addr} (h : H a = none) : M.H0 a = none := back_none A.ext h
/-- a slot stored -/
theorem Fm.At.set (A : M.At G P H σ κ Fs) {i k : Nat} {v : V} {F : List Addr} (hi : i ∉ M.Φ) (hF : ∀ a ∈ F, M.H0 a = none) : M.At G P H (σ.set i (some v)) (κ.set i k) (setF Fs i F) :=
  ⟨A.ext, fun j hj => by rw [List.getElem?_set_ne (ne_in hj hi)]; exact A.same j hj, fun j hj => by
    rw [List.getD_eq_getElem?_getD, List.getElem?_set_ne (ne_in hj hi), ← List.getD_eq_getElem?_getD]; exact A.kin j hj, fun j a m => by
    by_cases q : j = i
    · rw [q, setF_same] at m; exact .inr (hF a m)
    · rw [setF_ne q] at m; exact A.own j a m, A.late⟩
theorem Fm.At.kill (A : M.At G P H σ κ Fs) {i k : Nat} (hi : i ∉ M.Φ) : M.At G P H σ (κ.set i k) (setF Fs i []) :=
  ⟨A.ext, A.same, fun j hj => by
    rw [List.getD_eq_getElem?_getD, List.getElem?_set_ne (ne_in hj hi), ← List.getD_eq_getElem?_getD]; exact A.kin j hj, fun j a m => by
    by_cases q : j = i
    · rw [q, setF_same] at m; cases m
    · rw [setF_ne q] at m; exact A.own j a m, A.late⟩
theorem Fm.At.freeze (A : M.At G P H σ κ Fs) (R : Rep G P H σ ρ κ Fs) {i : Nat} (hi : i ∉ M.Φ) : M.At G (fun a => P a ∨ a ∈ Fs i) H σ (κ.set i 0) (setF Fs i []) := by
  have B := A.kill (k := 0) hi
  refine ⟨A.ext.trans (R.freeze i).2 fun c m => ?_, B.same, B.kin, B.own, fun m hm => (A.late m hm).trans (R.freeze i).2.late⟩
  rcases A.own i c m with z | z
  · exact absurd z.1 hi
  · exact .inr z

/-! ### what a test, an expression does to the frame -/
theorem ex_at {d : D} {f : Sem0} (R : Rep G P H σ ρ κ Fs) (A : M.At G P H σ κ Fs) (e : f ρ = some (d, ρ')) {Q : VK}
    (q : ∀ v H' P' F Fs', Rep G P' H' σ ρ' κ Fs' → M.At G P' H' σ κ Fs' → OwnK G P' H' k v d F → F.Nodup → (∀ a ∈ F, ¬ P' a ∧ M.H0 a = none ∧ ∀ i, a ∉ Fs' i) → Q v H') : tV G T κ k f σ H Q :=
  ⟨P, ρ, Fs, d, ρ', R, e, fun v H' P' F Fs' R' o nd fr E st gr => q v H' P' F Fs' R' (A.step E gr) o nd fun a m => ⟨(fr a m).1, A.fresh (fr a m).2.1, (fr a m).2.2⟩⟩
theorem te_at {b : Bool} {f : List D → Option (Bool × List D)} (R : Rep G P H σ ρ κ Fs) (A : M.At G P H σ κ Fs) (e : f ρ = some (b, ρ')) {Q : Bool → Hp → Prop}
    (q : ∀ H' P' Fs', Rep G P' H' σ ρ' κ Fs' → M.At G P' H' σ κ Fs' → Q b H') : tVT G T κ f σ H Q :=
  ⟨P, ρ, Fs, b, ρ', R, e, fun H' P' Fs' R' E st gr => q H' P' Fs' R' (A.step E gr)⟩
end
/-! ### what statements do -/
def nilS : SemS := fun ρ => some (.nx ρ)
def seqS (s t : SemS) : SemS := fun ρ => (s ρ).bind fun o => match o with
  | .nx ρ' => t ρ'
  | o => some o
def killS (i : Nat) (s : SemS) : SemS := fun ρ => s (ρ.set i .und)
def setS (i : Nat) (f : Sem0) : SemS := fun ρ => (f ρ).bind fun p => some (.nx (p.2.set i p.1))
def dropS (f : Sem0) : SemS := fun ρ => (f ρ).bind fun p => some (.nx p.2)
def retS (f : Sem0) : SemS := fun ρ => (f ρ).bind fun p => some (.rt p.1 p.2)
def retN : SemS := fun ρ => some (.rt .non ρ)
def bkS : SemS := fun ρ => some (.bk ρ)
def ctS : SemS := fun ρ => some (.ct ρ)
def ifS (c : List D → Option (Bool × List D)) (s t : SemS) : SemS := fun ρ => (c ρ).bind fun p => if p.1 = true then s p.2 else t p.2
/-- while, at most n turns -/
def whileS (c : List D → Option (Bool × List D)) (s : SemS) : Nat → SemS
  | 0, _ => none
  | n + 1, ρ => (c ρ).bind fun p => if p.1 = true then (s p.2).bind fun o => match o with
      | .nx ρ' => whileS c s n ρ'
      | .ct ρ' => whileS c s n ρ'
      | .bk ρ' => some (.nx ρ')
      | .rt d ρ' => some (.rt d ρ')
    else some (.nx p.2)
abbrev Tgt := D → List D → Option (List D)
def loopS (m : Tgt) (s : SemS) : List D → SemS
  | [], ρ => some (.nx ρ)
  | x :: xs, ρ => (m x ρ).bind fun ρ1 => (s ρ1).bind fun o => match o with
      | .nx ρ' => loopS m s xs ρ'
      | .ct ρ' => loopS m s xs ρ'
      | .bk ρ' => some (.nx ρ')
      | .rt d ρ' => some (.rt d ρ')
def forS (f : List D → Option (List D × List D)) (m : Tgt) (s : SemS) : SemS := fun ρ => (f ρ).bind fun p => loopS m s p.1 p.2

/-- an iterator that gives the data ds -/
structure WalkD (G : Wd) (J : It) (ds : List D) (P : Addr → Prop) (H : Hp) : Prop where
  go : ∀ P' H' i, Late G P H P' H' → i < ds.length → J.go i H'
  stop : ∀ P' H', Late G P H P' H' → J.stop ds.length H'
  yld : ∀ P' H' i x H2 d, Late G P H P' H' → ds[i]? = some d → J.yld i H' x H2 → (∀ a o, H' a = some o → H2 a = some o) ∧ Den G P' H2 x d
/-- a source -/
def tVI (G : Wd) (T κ : List Nat) (f : List D → Option (List D × List D)) : TI := fun σ H Q => ∃ P ρ Fs ds ρ', Rep G P H σ ρ κ Fs ∧ f ρ = some (ds, ρ') ∧
  ∀ (J : It) (H' : Hp) (P' : Addr → Prop) (Fs' : Nat → List Addr), Rep G P' H' σ ρ' κ Fs' → WalkD G J ds P' H' → Ext (Zt T Fs) P H P' H' → (∀ i, i ∉ T → Fs' i = Fs i ∧ ρ'[i]? = ρ[i]?) → (∀ i a, a ∈ Fs' i → a ∈ Fs i ∨ H a = none) → Q J H'
/-- a target -/
def tG (G : Wd) (Φ κ κ' : List Nat) (m : Tgt) : TG := fun x σ H N => ∃ P ρ Fs d ρ', Rep G P H σ ρ κ Fs ∧ Den G P H x d ∧ m d ρ = some ρ' ∧ ∀ σ' Fs', Rep G P H σ' ρ' κ' Fs' → (∀ i, i ∈ Φ → σ'[i]? = σ[i]? ∧ κ'.getD i 0 = κ.getD i 0 ∧ ρ'[i]? = ρ[i]? ∧ Fs' i = Fs i) → (∀ i a, a ∈ Fs' i → a ∈ Fs i) → N σ' H
section
variable {X : Cx} {κ κ' κb κ1 T U Φ : List Nat} {k : Nat}
theorem vss_nil : PSs X [] (tS (gd X) Φ κ κ κb k nilS) := PSs.imp pss_nil fun E σ H ⟨M, P, ρ, Fs, o, h1, R, A, e, q⟩ => by
  cases e
  exact q σ H P Fs R A
theorem vss_cons {st : Stmt} {rest : List Stmt} {s t : SemS} (h1 : PS X st (tS (gd X) Φ κ κ1 κb k s)) (h2 : PSs X rest (tS (gd X) Φ κ1 κ' κb k t)) : PSs X (st :: rest) (tS (gd X) Φ κ κ' κb k (seqS s t)) :=
  PSs.imp (pss_cons h1 h2) fun E σ H ⟨M, P, ρ, Fs, o, hM, R, A, e, q⟩ => by
    unfold seqS at e
    obtain ⟨o1, e1, e⟩ := Option.bind_eq_some_iff.mp e
    refine ⟨M, P, ρ, Fs, o1, hM, R, A, e1, ?_⟩
    cases o1 with
    | nx ρ1 => exact fun σ' H' P' Fs' R' A' => ⟨M, P', ρ1, Fs', o, hM, R', A', e, q⟩
    | bk ρ1 => cases e; exact q
    | ct ρ1 => cases e; exact q
    | rt d ρ1 => cases e; exact q
theorem vss_one {st : Stmt} {s : SemS} (h1 : PS X st (tS (gd X) Φ κ κ' κb k s)) : PSs X [st] (tS (gd X) Φ κ κ' κb k s) := pss_one h1
/-- slot i becomes shared -/
theorem vss_frz {sts : List Stmt} {s : SemS} (i : Nat) (hi : i ∉ Φ) (h : PSs X sts (tS (gd X) Φ (κ.set i 0) κ' κb k s)) : PSs X sts (tS (gd X) Φ κ κ' κb k s) :=
  h.imp fun E σ H ⟨M, P, ρ, Fs, o, hM, R, A, e, q⟩ => ⟨M, _, ρ, _, o, hM, (R.freeze i).1, A.freeze R (hM ▸ hi), e, q⟩
/-- slot i forgotten, of kind j from now on -/
theorem vss_kill {sts : List Stmt} {s : SemS} (i j : Nat) (hi : i ∉ Φ) (h : PSs X sts (tS (gd X) Φ (κ.set i j) κ' κb k s)) : PSs X sts (tS (gd X) Φ κ κ' κb k (killS i s)) :=
  h.imp fun E σ H ⟨M, P, ρ, Fs, o, hM, R, A, e, q⟩ => ⟨M, P, _, _, o, hM, R.kill i j, A.kill (hM ▸ hi), e, q⟩
theorem set_at {M : Fm} {P : Addr → Prop} {H : Hp} {σ : L2.St} {ρ : List D} {Fs : Nat → List Addr} {i j : Nat} {f : Sem0} {o : Out} {E : Ends} (hM : M.Φ = Φ) (hi : i ∉ Φ) (hk : i < κ.length) (R : Rep (gd X) P H σ ρ κ Fs) (A : M.At (gd X) P H σ κ Fs) (e : setS i f ρ = some o) (q : OutE (gd X) M (κ.set i j) κb k o E) :
    tV (gd X) T κ j f σ H fun x H1 => E.nx (σ.set i (some x)) H1 := by
  unfold setS at e
  obtain ⟨⟨d, ρ1⟩, e1, e⟩ := Option.bind_eq_some_iff.mp e
  cases e
  exact ex_at R A e1 fun v H' P' F Fs' R' A' ow nd fr => q (σ.set i (some v)) H' P' (setF Fs' i F) (R'.set hk ow nd (fun a m => (fr a m).1) fun j _ a m => (fr a m).2.2 j) (A'.set (hM ▸ hi) fun a m => (fr a m).2.1)
/-- name = e -/
theorem vs_set {j : Nat} {i : Nat} {x : Str} {e : Expr} {f : Sem0} {pos pos' : Pos} (hi : i ∉ Φ) (hk : i < κ.length) (hN : X.N.Nodup) (hx1 : X.N[i]? = some x) (hx : Loc X.env.scope x) (he : PE X e (tV (gd X) T κ j f)) (hs : swapsWith e (some (.Name x pos')) pos.line X.env = pure false := by rfl) (hf : X.fn x = true ∨ X.env.scope.names.lookup x = some .local := by first | exact .inl rfl | exact .inr rfl | assumption) :
    PS X (.Assign [.Name x pos'] e pos) (tS (gd X) Φ κ (κ.set i j) κb k (setS i f)) :=
  PS.imp (ps_set hN hx1 hx he hs hf) fun E σ H ⟨M, P, ρ, Fs, o, hM, R, A, e, q⟩ => set_at hM hi hk R A e q
theorem vs_expr {e : Expr} {f : Sem0} {pos : Pos} {j : Nat} (he : PE X e (tV (gd X) T κ j f)) (hs : swapsWith e none pos.line X.env = pure false := by rfl) : PS X (.Expr e pos) (tS (gd X) Φ κ κ κb k (dropS f)) :=
  PS.imp (ps_expr he hs) fun E σ H ⟨M, P, ρ, Fs, o, hM, R, A, e, q⟩ => by
    unfold dropS at e
    obtain ⟨⟨d, ρ1⟩, e1, e⟩ := Option.bind_eq_some_iff.mp e
    cases e
    exact ex_at R A e1 fun v H' P' F Fs' R' A' ow nd fr => q σ H' P' Fs' R' A'
theorem vs_ret {e : Expr} {f : Sem0} {pos : Pos} (he : PE X e (tV (gd X) T κ k f)) : PS X (.Return (some e) pos) (tS (gd X) Φ κ κ' κb k (retS f)) :=
  PS.imp (ps_ret he) fun E σ H ⟨M, P, ρ, Fs, o, hM, R, A, e, q⟩ => by
    unfold retS at e
    obtain ⟨⟨d, ρ1⟩, e1, e⟩ := Option.bind_eq_some_iff.mp e
    cases e
    exact ex_at R A e1 fun v H' P' F Fs' R' A' ow nd fr => q v σ H' P' Fs' κ F R' A' ow nd fr
theorem vs_retN {pos : Pos} : PS X (.Return none pos) (tS (gd X) Φ κ κ' κb k retN) :=
  PS.imp ps_retN fun E σ H ⟨M, P, ρ, Fs, o, hM, R, A, e, q⟩ => by
    cases e
    exact q .non σ H P Fs κ [] R A (OwnK.flat (F := []) .non rfl) List.nodup_nil fun a m => by cases m
theorem vs_pass {pos : Pos} : PS X (.Pass pos) (tS (gd X) Φ κ κ κb k nilS) := PS.imp ps_pass fun E σ H ⟨M, P, ρ, Fs, o, h1, R, A, e, q⟩ => by
  cases e
  exact q σ H P Fs R A
theorem vs_break {pos : Pos} : PS X (.Break pos) (tS (gd X) Φ κ κ' κ k bkS) := PS.imp ps_break fun E σ H ⟨M, P, ρ, Fs, o, h1, R, A, e, q⟩ => by
  cases e
  exact q σ H P Fs R A
theorem vs_cont {pos : Pos} : PS X (.Continue pos) (tS (gd X) Φ κ κ' κ k ctS) := PS.imp ps_continue fun E σ H ⟨M, P, ρ, Fs, o, h1, R, A, e, q⟩ => by
  cases e
  exact q σ H P Fs R A
theorem vs_if {c : Expr} {a b : List Stmt} {pos : Pos} {t : List D → Option (Bool × List D)} {s u : SemS} (hc : PT X c (tVT (gd X) T κ t)) (ha : PSs X a (tS (gd X) Φ κ κ' κb k s)) (hb : PSs X b (tS (gd X) Φ κ κ' κb k u)) : PS X (.If c a b pos) (tS (gd X) Φ κ κ' κb k (ifS t s u)) :=
  PS.imp (ps_if hc ha hb) fun E σ H ⟨M, P, ρ, Fs, o, hM, R, A, e, q⟩ => by
    unfold ifS at e
    obtain ⟨⟨b, ρ1⟩, e1, e⟩ := Option.bind_eq_some_iff.mp e
    refine te_at R A e1 fun H' P' Fs' R' A' => ?_
    cases b with
    | true => exact ⟨M, P', ρ1, Fs', o, hM, R', A', e, q⟩
    | false => exact ⟨M, P', ρ1, Fs', o, hM, R', A', e, q⟩
theorem vs_while {c : Expr} {body : List Stmt} {pos : Pos} {t : List D → Option (Bool × List D)} {s : SemS} (n : Nat) (hp : PassesOwn (model X.prog X.w) X.A X.env X.xe) (hc : PT X c (tVT (gd X) T κ t)) (hb : PSs X body (tS (gd X) Φ κ κ κ k s)) : PS X (.While c body [] pos) (tS (gd X) Φ κ κ κb k (whileS t s n)) :=
  PS.imp (ps_while hp hc hb) fun E σ H ⟨M, P, ρ, Fs, o, hM, R, A, e, q⟩ => by
    refine ⟨fun m σ H => ∃ P ρ Fs, Rep (gd X) P H σ ρ κ Fs ∧ M.At (gd X) P H σ κ Fs ∧ whileS t s m ρ = some o, ⟨n, P, ρ, Fs, R, A, e⟩, ?_⟩
    rintro m σ1 H1 ⟨P1, ρ1, Fs1, R1, A1, e1⟩
    cases m with
    | zero => cases e1
    | succ m =>
      unfold whileS at e1
      obtain ⟨⟨b, ρ2⟩, e2, e3⟩ := Option.bind_eq_some_iff.mp e1
      refine te_at R1 A1 e2 fun H' P' Fs' R' A' => ?_
      cases b with
      | false =>
        cases e3
        exact q σ1 H' P' Fs' R' A'
      | true =>
        obtain ⟨o', e4, e5⟩ := Option.bind_eq_some_iff.mp (show (s ρ2).bind _ = some o from e3)
        show ∃ N : L2.St → Hp → Prop, _ ∧ _
        refine ⟨fun σ2 H2 => ∃ P ρ Fs, Rep (gd X) P H2 σ2 ρ κ Fs ∧ M.At (gd X) P H2 σ2 κ Fs ∧ whileS t s m ρ = some o, fun σ2 H2 z => ⟨m, Nat.lt_succ_self m, z⟩, M, P', ρ2, Fs', o', hM, R', A', e4, ?_⟩
        cases o' with
        | nx ρ3 => exact fun σ' H' P' Fs' R' A' => ⟨P', ρ3, Fs', R', A', e5⟩
        | ct ρ3 => exact fun σ' H' P' Fs' R' A' => ⟨P', ρ3, Fs', R', A', e5⟩
        | bk ρ3 => cases e5; exact q
        | rt d ρ3 => cases e5; exact q
theorem vs_for {tg iter : Expr} {body : List Stmt} {pos : Pos} {f : List D → Option (List D × List D)} {m : Tgt} {s : SemS} (hp : PassesOwn (model X.prog X.w) X.A X.env X.xe) (hc : X.calm = true) (hi : PI X tg iter (tVI (gd X) T κ f)) (hg : PG X tg (tG (gd X) Φ κ κ m)) (hb : PSs X body (tS (gd X) Φ κ κ κ k s))
    (hs : ∀ x, foldedSetIterable iter X.env x = pure x := by intro _; rfl) : PS X (.For tg iter body [] pos) (tS (gd X) Φ κ κ κb k (forS f m s)) :=
  PS.imp (ps_for hp hc hi hg hb hs) fun E σ H ⟨M, P, ρ, Fs, o, hM, R, A, e, q⟩ => by
    unfold forS at e
    obtain ⟨⟨ds, ρ1⟩, e1, e⟩ := Option.bind_eq_some_iff.mp e
    refine ⟨P, ρ, Fs, ds, ρ1, R, e1, fun J H' P' Fs' R' W Ex st gr => ?_⟩
    have A' := A.step Ex gr
    refine ⟨fun i m' σ H => i + m' = ds.length ∧ ∃ P ρ Fs, Rep (gd X) P H σ ρ κ Fs ∧ M.At (gd X) P H σ κ Fs ∧ Late (gd X) P' H' P H ∧ loopS m s (ds.drop i) ρ = some o, ⟨ds.length, Nat.zero_add _, P', ρ1, Fs', R', A', Late.refl, e⟩, ?_⟩
    rintro i m' σ1 H1 ⟨hl, P1, ρ2, Fs1, R1, A1, L1, e2⟩
    cases hd : ds.drop i with
    | nil =>
      have hi : i = ds.length := by
        have := List.drop_eq_nil_iff.mp hd
        omega
      subst hi
      rw [hd] at e2
      cases e2
      exact .inl ⟨W.stop P1 H1 L1, q σ1 H1 P1 Fs1 R1 A1⟩
    | cons x xs =>
      have hi : i < ds.length := by
        have := congrArg List.length hd
        rw [List.length_drop, List.length_cons] at this
        omega
      have hx : ds[i]? = some x := by
        have := congrArg List.head? hd
        rw [List.head?_drop] at this
        exact this
      have hxs : ds.drop (i + 1) = xs := by
        rw [← List.drop_drop, hd]
        rfl
      rw [hd] at e2
      unfold loopS at e2
      obtain ⟨ρ3, e3, e2⟩ := Option.bind_eq_some_iff.mp e2
      obtain ⟨o', e4, e5⟩ := Option.bind_eq_some_iff.mp e2
      refine .inr ⟨W.go P1 H1 i L1 hi, fun σ H => ∃ P ρ Fs, Rep (gd X) P H σ ρ κ Fs ∧ M.At (gd X) P H σ κ Fs ∧ Late (gd X) P' H' P H ∧ loopS m s xs ρ = some o, fun σ' H'' ⟨P, ρ, Fs, a, b, c, d⟩ => ⟨m' - 1, by omega, by omega, P, ρ, Fs, a, b, c, by rw [hxs]; exact d⟩, fun v H2 hy => ?_⟩
      obtain ⟨kp, dn⟩ := W.yld P1 H1 i v H2 x L1 hx hy
      have E2 : Ext (fun _ => False) P1 H1 P1 H2 := Ext.new kp
      have R2 := R1.ext E2 fun _ _ _ z => z
      have A2 : M.At (gd X) P1 H2 σ1 κ Fs1 := ⟨A1.ext.trans E2 fun _ z => z.elim, A1.same, A1.kin, A1.own, fun m hm => (A1.late m hm).trans E2.late⟩
      refine ⟨P1, ρ2, Fs1, x, ρ3, R2, dn, e3, fun σ2 Fs2 R3 sm sub => ?_⟩
      have A3 : ({ M with mks := (P', H') :: M.mks }).At (gd X) P1 H2 σ2 κ Fs2 := ⟨A2.ext, fun j hj => (sm j (hM ▸ hj)).1.trans (A2.same j hj), A2.kin, fun j a m => A2.own j a (sub j a m), fun m hm => by
        rcases List.mem_cons.mp hm with rfl | hm
        · exact L1.trans E2.late
        · exact A2.late m hm⟩
      refine ⟨{ M with mks := (P', H') :: M.mks }, P1, ρ3, Fs2, o', hM, R3, A3, e4, ?_⟩
      have back : ∀ {P H σ κ Fs}, ({ M with mks := (P', H') :: M.mks }).At (gd X) P H σ κ Fs → M.At (gd X) P H σ κ Fs := fun A => ⟨A.ext, A.same, A.kin, A.own, fun m hm => A.late m (List.mem_cons_of_mem _ hm)⟩
      cases o' with
      | nx ρ4 => exact fun σ' H' P' Fs' R' A' => ⟨P', ρ4, Fs', R', back A', A'.late _ List.mem_cons_self, e5⟩
      | ct ρ4 => exact fun σ' H' P' Fs' R' A' => ⟨P', ρ4, Fs', R', back A', A'.late _ List.mem_cons_self, e5⟩
      | bk ρ4 => cases e5; exact fun σ' H' P' Fs' R' A' => q σ' H' P' Fs' R' (back A')
      | rt d ρ4 => cases e5; exact fun v σ' H' P' Fs' κ' F R' A' => q v σ' H' P' Fs' κ' F R' (back A')
theorem Fm.At.tgt {G : Wd} {M : Fm} {P : Addr → Prop} {H : Hp} {σ σ' : L2.St} {Fs Fs' : Nat → List Addr} (A : M.At G P H σ κ Fs) {ρ ρ' : List D} (sm : ∀ i, i ∈ M.Φ → σ'[i]? = σ[i]? ∧ κ'.getD i 0 = κ.getD i 0 ∧ ρ'[i]? = ρ[i]? ∧ Fs' i = Fs i) (sub : ∀ i a, a ∈ Fs' i → a ∈ Fs i) : M.At G P H σ' κ' Fs' :=
  ⟨A.ext, fun j hj => (sm j hj).1.trans (A.same j hj), fun j hj => (sm j hj).2.1.trans (A.kin j hj), fun j a m => A.own j a (sub j a m), A.late⟩
def asgS (f : Sem0) (m : Tgt) : SemS := fun ρ => (f ρ).bind fun p => (m p.1 p.2).bind fun ρ' => some (.nx ρ')
/-- target = e, the value shared -/
theorem vs_asg {tg e : Expr} {f : Sem0} {m : Tgt} {pos : Pos} (he : PE X e (tV (gd X) T κ 0 f)) (hg : PG X tg (tG (gd X) Φ κ κ' m)) (hs : swapsWithSole [tg] e pos.line X.env = pure false := by rfl) (hw : swappedStores [tg] e X.env = pure none := by rfl)
    (h1 : (assignEach [tg] X.env).map (·.2) = [assign tg X.env] := by rfl) : PS X (.Assign [tg] e pos) (tS (gd X) Φ κ κ' κb k (asgS f m)) :=
  PS.imp (ps_asg he hg hs hw h1) fun E σ H ⟨M, P, ρ, Fs, o, hM, R, A, e, q⟩ => by
    unfold asgS at e
    obtain ⟨⟨d, ρ1⟩, e1, e⟩ := Option.bind_eq_some_iff.mp e
    obtain ⟨ρ2, e2, e⟩ := Option.bind_eq_some_iff.mp e
    cases e
    exact ex_at R A e1 fun v H' P' F Fs' R' A' ow nd fr => ⟨P', ρ1, Fs', d, ρ2, R', ow.1, e2, fun σ' Fs2 R2 sm sub => q σ' H' P' Fs2 R2 (A'.tgt (hM ▸ sm) sub)⟩
/-! ### targets -/
def tgN (i : Nat) : Tgt := fun d ρ => some (ρ.set i d)
def tgs : List Tgt → List D → List D → Option (List D)
  | [], [], ρ => some ρ
  | m :: ms, d :: ds, ρ => (m d ρ).bind fun ρ' => tgs ms ds ρ'
  | _, _, _ => none
def tgT (ms : List Tgt) : Tgt := fun d ρ => match d with
  | .tup ds => tgs ms ds ρ
  | _ => none
theorem vg_name {i : Nat} {x : Str} {pos : Pos} (hi : i ∉ Φ) (hk : i < κ.length) (hκ : κ.set i 0 = κ') (hN : X.N.Nodup) (hx1 : X.N[i]? = some x) (hx : Loc X.env.scope x) (hf : X.fn x = true ∨ X.env.scope.names.lookup x = some .local := by first | exact .inl rfl | exact .inr rfl | assumption) : PG X (.Name x pos) (tG (gd X) Φ κ κ' (tgN i)) :=
  (pg_name hN hx1 hx hf).imp fun v σ H Q ⟨P, ρ, Fs, d, ρ', R, dn, e, q⟩ => by
    cases e
    subst hκ
    refine q _ (setF Fs i []) (R.set hk ⟨dn, rfl⟩ List.nodup_nil (fun a m => by cases m) fun j _ a m => by cases m) (fun j hj => ?_) fun j a m => ?_
    · have := ne_in hj hi
      exact ⟨List.getElem?_set_ne this, by rw [List.getD_eq_getElem?_getD, List.getElem?_set_ne this, ← List.getD_eq_getElem?_getD], List.getElem?_set_ne this, setF_ne (Ne.symm this)⟩
    · by_cases z : j = i
      · rw [z, setF_same] at m; cases m
      · rw [setF_ne z] at m; exact m
def tGs (G : Wd) (Φ κ κ' : List Nat) (ms : List Tgt) : TGs := fun xs σ H N => ∃ P ρ Fs ds ρ', Rep G P H σ ρ κ Fs ∧ DenL G P H xs ds ∧ tgs ms ds ρ = some ρ' ∧ ∀ σ' Fs', Rep G P H σ' ρ' κ' Fs' → (∀ i, i ∈ Φ → σ'[i]? = σ[i]? ∧ κ'.getD i 0 = κ.getD i 0 ∧ ρ'[i]? = ρ[i]? ∧ Fs' i = Fs i) → (∀ i a, a ∈ Fs' i → a ∈ Fs i) → N σ' H
theorem _root_.L2.PGs.imp {X : Cx} {e : List Expr} {t t' : TGs} (h : PGs X e t) (i : ∀ v σ H Q, t' v σ H Q → t v σ H Q) : PGs X e t' := ⟨fun pins s σ H v u Q I r w => h.run pins s σ H v u Q I r (i v σ H Q w)⟩
theorem vgs_nil : PGs X [] (tGs (gd X) Φ κ κ []) := pgs_nil.imp fun xs σ H Q ⟨P, ρ, Fs, ds, ρ', R, dn, e, q⟩ => by
  cases dn with
  | nil =>
    cases e
    exact ⟨rfl, q σ Fs R (fun _ _ => ⟨rfl, rfl, rfl, rfl⟩) fun _ _ m => m⟩
  | cons _ _ => cases e
theorem vgs_cons {e : Expr} {es : List Expr} {m : Tgt} {ms : List Tgt} (h1 : PG X e (tG (gd X) Φ κ κ1 m)) (h2 : PGs X es (tGs (gd X) Φ κ1 κ' ms)) (hs : (assignEach (e :: es) X.env).map (·.2) = assign e X.env :: (assignEach es X.env).map (·.2) := by rfl) : PGs X (e :: es) (tGs (gd X) Φ κ κ' (m :: ms)) :=
  (pgs_cons h1 h2 hs).imp fun xs σ H Q ⟨P, ρ, Fs, ds, ρ', R, dn, e, q⟩ => by
    cases dn with
    | nil => cases e
    | cons dx dr =>
      unfold tgs at e
      obtain ⟨ρ1, e1, e⟩ := Option.bind_eq_some_iff.mp e
      exact ⟨_, _, rfl, P, ρ, Fs, _, ρ1, R, dx, e1, fun σ1 Fs1 R1 sm1 sub1 => ⟨P, ρ1, Fs1, _, ρ', R1, dr, e, fun σ2 Fs2 R2 sm2 sub2 =>
        q σ2 Fs2 R2 (fun i hi => ⟨(sm2 i hi).1.trans (sm1 i hi).1, (sm2 i hi).2.1.trans (sm1 i hi).2.1, (sm2 i hi).2.2.1.trans (sm1 i hi).2.2.1, (sm2 i hi).2.2.2.trans (sm1 i hi).2.2.2⟩) fun i a m => sub1 i a (sub2 i a m)⟩⟩
theorem tgs_length : ∀ {ms : List Tgt} {ds ρ ρ' : List D}, tgs ms ds ρ = some ρ' → ds.length = ms.length
  | [], [], _, _, _ => rfl
  | [], _ :: _, _, _, h => by cases h
  | _ :: _, [], _, _, h => by cases h
  | m :: ms, d :: ds, ρ, ρ', h => by
    unfold tgs at h
    obtain ⟨ρ1, _, e⟩ := Option.bind_eq_some_iff.mp h
    rw [List.length_cons, List.length_cons, tgs_length e]
theorem vg_tup {es : List Expr} {kk : Nat} {ms : List Tgt} {pos : Pos} (hc : X.calm = true) (h : PGs X es (tGs (gd X) Φ κ κ' ms)) (hn : (assignEach es X.env).length = ms.length := by rfl) (hst : (assignEach es X.env).findIdx? (·.1) = none := by rfl) : PG X (.Tuple es kk pos) (tG (gd X) Φ κ κ' (tgT ms)) :=
  (pg_tup hc h hn hst).imp fun x σ H Q ⟨P, ρ, Fs, d, ρ', R, dn, e, q⟩ => by
    cases dn with
    | tup ha hd => exact ⟨_, _, rfl, .inl (.inl ha), hd.length.trans (tgs_length e), P, ρ, Fs, _, ρ', R, hd, e, q⟩
    | _ => cases e
end
end VS

set_option Elab.async false
set_option linter.all false
set_option maxRecDepth 100000
/-! Expressions over data. -/
namespace VS
open PySem PySem.Spec PyProof.Rows L2

structure Stp (T : List Nat) (P : Addr → Prop) (H : Hp) (Fs : Nat → List Addr) (ρ : List D) (P' : Addr → Prop) (H' : Hp) (Fs' : Nat → List Addr) (ρ' : List D) : Prop where
  ext : Ext (Zt T Fs) P H P' H'
  st : ∀ i, i ∉ T → Fs' i = Fs i ∧ ρ'[i]? = ρ[i]?
  gr : ∀ i a, a ∈ Fs' i → a ∈ Fs i ∨ H a = none
section
variable {G : Wd} {P P' P1 : Addr → Prop} {H H' H1 : Hp} {σ : L2.St} {ρ ρ' ρ1 : List D} {κ T U : List Nat} {Fs Fs' Fs1 : Nat → List Addr} {k : Nat}
theorem Stp.refl (T : List Nat) (R : Rep G P H σ ρ κ Fs) : Stp T P H Fs ρ P H Fs ρ := ⟨Ext.refl (R.zm _) (R.zp _), fun _ _ => ⟨rfl, rfl⟩, fun _ _ m => .inl m⟩
theorem Stp.trans (R : Rep G P H σ ρ κ Fs) (a : Stp T P H Fs ρ P1 H1 Fs1 ρ1) (b : Stp U P1 H1 Fs1 ρ1 P' H' Fs' ρ') : Stp (T ++ U) P H Fs ρ P' H' Fs' ρ' :=
  ⟨(a.ext.more Zt.left (R.zm _) (R.zp _)).trans b.ext (Zt.step a.gr), fun i hi => by
    rw [List.mem_append, not_or] at hi
    obtain ⟨a1, a2⟩ := a.st i hi.1
    obtain ⟨b1, b2⟩ := b.st i hi.2
    exact ⟨b1.trans a1, b2.trans a2⟩, fun i c m => by
    rcases b.gr i c m with m | m
    · exact a.gr i c m
    · exact .inr (back_none a.ext m)⟩
theorem Stp.mono (R : Rep G P H σ ρ κ Fs) (h : ∀ i, i ∈ T → i ∈ U) (a : Stp T P H Fs ρ P' H' Fs' ρ') : Stp U P H Fs ρ P' H' Fs' ρ' :=
  ⟨a.ext.more (fun _ ⟨i, hi, m⟩ => ⟨i, h i hi, m⟩) (R.zm _) (R.zp _), fun i hi => a.st i fun z => hi (h i z), a.gr⟩
theorem Stp.old (a : Stp T P H Fs ρ P' H' Fs' ρ') {Z : Addr → Prop} {P2 : Addr → Prop} {H2 : Hp} (E : Ext (fun _ => False) P' H' P2 H2) : Stp T P H Fs ρ P2 H2 Fs' ρ' := ⟨a.ext.trans E fun _ z => z.elim, a.st, a.gr⟩
/-- what is known of a new value stays, when the slots U change -/
theorem fresh_step (R : Rep G P H σ ρ κ Fs) {v : V} {d : D} {F : List Addr} (o : OwnK G P H k v d F) (fr : ∀ a ∈ F, ¬ P a ∧ ∀ i, a ∉ Fs i) (b : Stp U P H Fs ρ P' H' Fs' ρ') : OwnK G P' H' k v d F ∧ ∀ a ∈ F, ¬ P' a ∧ ∀ i, a ∉ Fs' i := by
  have hz : ∀ a ∈ F, ¬ Zt U Fs a := fun a m ⟨i, _, z⟩ => (fr a m).2 i z
  refine ⟨o.ext b.ext hz, fun a m => ?_⟩
  obtain ⟨u, e5, _⟩ := o.isM a m
  refine ⟨fun p => ?_, fun i z => ?_⟩
  · rcases b.ext.newP a p with p | p | p
    · exact (fr a m).1 p
    · rw [e5] at p; cases p
    · exact hz a m p
  · rcases b.gr i a z with z | z
    · exact (fr a m).2 i z
    · rw [e5] at z; cases z
/-- a new value is shared -/
theorem share_val (R : Rep G P H σ ρ κ Fs) {v : V} {d : D} {F : List Addr} (o : OwnK G P H k v d F) (fr : ∀ a ∈ F, ¬ P a ∧ ∀ i, a ∉ Fs i) :
    Rep G (fun a => P a ∨ a ∈ F) H σ ρ κ Fs ∧ Den G (fun a => P a ∨ a ∈ F) H v d ∧ Ext (fun a => a ∈ F) P H (fun a => P a ∨ a ∈ F) H := by
  have E : Ext (fun a => a ∈ F) P H (fun a => P a ∨ a ∈ F) H := Ext.share _ o.isM fun a m => (fr a m).1
  exact ⟨R.ext E fun i a m z => (fr a z).2 i m, o.view fun a m => (fr a m).1, E⟩
end

section
variable {X : Cx} {κ κ' T U : List Nat} {k : Nat} {f : Sem0}
def cF (d : D) : Sem0 := fun ρ => some (d, ρ)
theorem tV_c {d : D} {v : V} {G : Wd} (hd : ∀ P H, Den G P H v d) (hf : d.flat = true) {σ : L2.St} {H : Hp} {Q : VK} (h : tV G [] κ k (cF d) σ H Q) : tC v σ H Q := by
  obtain ⟨P, ρ, Fs, d', ρ', R, e, q⟩ := h
  cases e
  have s := Stp.refl [] R
  exact q v H P [] Fs R (OwnK.flat (F := []) (hd P H) hf) List.nodup_nil (fun a m => by cases m) s.ext s.st s.gr
theorem ve_int {i j pos} : PE X (.Constant (.int i) j pos) (tV (gd X) [] κ k (cF (.int i))) := pe_int.imp fun _ _ _ => tV_c (fun _ _ => .int i) rfl
theorem ve_bl {b j pos} : PE X (.Constant (.bool b) j pos) (tV (gd X) [] κ k (cF (.bl b))) := pe_bl.imp fun _ _ _ => tV_c (fun _ _ => .bl b) rfl
theorem ve_non {j pos} : PE X (.Constant .none j pos) (tV (gd X) [] κ k (cF .non)) := pe_non.imp fun _ _ _ => tV_c (fun _ _ => .non) rfl
theorem ve_str {x j pos} : PE X (.Constant (.str x) j pos) (tV (gd X) [] κ k (cF (.str x))) := pe_str.imp fun _ _ _ => tV_c (fun _ _ => .str x) rfl
theorem ve_var {i : Nat} {x : Str} {pos : Pos} (hk : κ.getD i 0 = 0) (hN : X.N[i]? = some x) (hv : Vis X.env.scope x) (hd : (x == ("__debug__" : Str)) = false := by decide) (hcd : (x == ("__classdict__" : Str)) = false := by decide) : PE X (.Name x pos) (tV (gd X) [] κ 0 (rd i)) :=
  (pe_var hN hv hd hcd).imp fun _ _ _ h => te_of_rd hk h
/-- a new value shared -/
theorem ve_share {e : Expr} (h : PE X e (tV (gd X) T κ k f)) : PE X e (tV (gd X) T κ 0 f) := h.imp fun σ H Q ⟨P, ρ, Fs, d, ρ', R, e, q⟩ =>
  ⟨P, ρ, Fs, d, ρ', R, e, fun v H' P' F Fs' R' o nd fr E st gr => by
    obtain ⟨R2, dn, E2⟩ := share_val R' o fun a m => ⟨(fr a m).1, (fr a m).2.2⟩
    exact q v H' _ [] Fs' R2 ⟨dn, rfl⟩ List.nodup_nil (fun a m => by cases m) (E.trans E2 fun a m => .inr (fr a m).2.1) st gr⟩
/-- T may be more -/
theorem tV_more {G : Wd} (h : ∀ i, i ∈ T → i ∈ U) {σ : L2.St} {H : Hp} {Q : VK} (w : tV G U κ k f σ H Q) : tV G T κ k f σ H Q := by
  obtain ⟨P, ρ, Fs, d, ρ', R, e, q⟩ := w
  refine ⟨P, ρ, Fs, d, ρ', R, e, fun v H' P' F Fs' R' o nd fr E st gr => ?_⟩
  have s := Stp.mono R h ⟨E, st, gr⟩
  exact q v H' P' F Fs' R' o nd fr s.ext s.st s.gr

/-! ### operands -/
structure VO (X : Cx) (κ : List Nat) (e : Expr) (o : Od) : Prop where
  pe : PE X e (o.te (gd X) κ)
  wf : o.Wf κ
structure VA (X : Cx) (κ : List Nat) (es : List Expr) (os : List Od) : Prop where
  pa : PA X es (argsT (gd X) κ os)
  wf : WfSeq κ os
abbrev odE (T : List Nat) (k : Nat) (f : Sem0) : Od := ⟨none, T, k, f⟩
theorem vo_var {i : Nat} {x : Str} {pos : Pos} (hN : X.N[i]? = some x) (hv : Vis X.env.scope x) (hd : (x == ("__debug__" : Str)) = false := by decide) (hcd : (x == ("__classdict__" : Str)) = false := by decide) : VO X κ (.Name x pos) (odS κ i) :=
  ⟨pe_var hN hv hd hcd, ⟨fun j h => by cases h; rfl⟩⟩
theorem vo_e {e : Expr} (h : PE X e (tV (gd X) T κ k f)) : VO X κ e (odE T k f) := ⟨h, ⟨fun j z => by cases z⟩⟩
theorem va_nil : VA X κ [] [] := ⟨pa_nil, trivial⟩
theorem va_cons {e : Expr} {es : List Expr} {o : Od} {os : List Od} (h : VO X κ e o) (r : VA X κ es os) (hi : ∀ i, o.al = some i → i ∉ Ts os) (hs : starEach (e :: es) X.env = (false, eval e X.env) :: starEach es X.env := by rfl) : VA X κ (e :: es) (o :: os) :=
  ⟨pa_cons h.pe r.pa hs, h.wf, hi, r.wf⟩
theorem va_e {e : Expr} {es : List Expr} {os : List Od} (h : PE X e (tV (gd X) T κ k f)) (r : VA X κ es os) (hs : starEach (e :: es) X.env = (false, eval e X.env) :: starEach es X.env := by rfl) : VA X κ (e :: es) (odE T k f :: os) := va_cons (vo_e h) r (fun _ z => by cases z) hs
theorem va_var {i : Nat} {x : Str} {pos : Pos} {es : List Expr} {os : List Od} (hN : X.N[i]? = some x) (hv : Vis X.env.scope x) (hi : i ∉ Ts os) (r : VA X κ es os) (hd : (x == ("__debug__" : Str)) = false := by decide) (hcd : (x == ("__classdict__" : Str)) = false := by decide)
    (hs : starEach (.Name x pos :: es) X.env = (false, eval (.Name x pos) X.env) :: starEach es X.env := by rfl) : VA X κ (.Name x pos :: es) (odS κ i :: os) := va_cons (vo_var hN hv hd hcd) r (fun j z => by cases z; exact hi) hs
/-- by values: two operands, one -/
def r2 (r : R2) : List V → Hp → VK → Prop
  | [x, y], H, Q => r x y H Q
  | _, _, _ => False
def r1v (r : V → Hp → VK → Prop) : List V → Hp → VK → Prop
  | [x], H, Q => r x H Q
  | _, _, _ => False
abbrev NoT (o p : Od) : Prop := ∀ i, o.al = some i → i ∉ p.T
theorem wf1 {a : Expr} {oa : Od} (ha : VO X κ a oa) : WfSeq κ [oa] := ⟨ha.wf, fun i h z => (by cases z), trivial⟩
theorem wf2 {a b : Expr} {oa ob : Od} (ha : VO X κ a oa) (hb : VO X κ b ob) (hi : NoT oa ob) : WfSeq κ [oa, ob] := ⟨ha.wf, fun i h z => hi i h (by simpa [Ts] using z), hb.wf, fun i h z => (by cases z), trivial⟩
theorem op2_ok {a b : Expr} {oa ob : Od} {g : List D → Option D} {r : R2} (ha : VO X κ a oa) (hb : VO X κ b ob) (hi : NoT oa ob) (O : OpS (gd X) [oa, ob] k g (r2 r)) {σ : L2.St} {H : Hp} {Q : VK} (h : tV (gd X) (Ts [oa, ob]) κ k (opF g [oa, ob]) σ H Q) : tOp r (oa.te (gd X) κ) (ob.te (gd X) κ) σ H Q :=
  op_ok (wf2 ha hb hi) O h
/-- a op b -/
theorem ve_bin {a b : Expr} {op : Operator} {oa ob : Od} {g : List D → Option D} {r : R2} {pos : Pos} (ho : OpR X (binaryOp op) r) (O : OpS (gd X) [oa, ob] k g (r2 r)) (ha : VO X κ a oa) (hb : VO X κ b ob) (hi : NoT oa ob) : PE X (.BinOp a op b pos) (tV (gd X) (Ts [oa, ob]) κ k (opF g [oa, ob])) :=
  (pe_op ho ha.pe hb.pe).imp fun σ H Q h => op2_ok ha hb hi O h
theorem ve_un {a : Expr} {op : UnaryOp} {oa : Od} {g : List D → Option D} {r : V → Hp → VK → Prop} {pos : Pos} (ho : UnR X (unaryOp op) r) (O : OpS (gd X) [oa] k g (r1v r)) (ha : VO X κ a oa) : PE X (.UnaryOp op a pos) (tV (gd X) (Ts [oa]) κ k (opF g [oa])) :=
  (pe_un ho ha.pe).imp fun σ H Q h => op_ok (wf1 ha) O h
theorem ve_cmp {a b : Expr} {op : CmpOp} {oa ob : Od} {g : List D → Option D} {r : R2} {pos : Pos} (ho : OpR X (compareOp op) r) (O : OpS (gd X) [oa, ob] k g (r2 r)) (ha : VO X κ a oa) (hb : VO X κ b ob) (hi : NoT oa ob) (hm : behindInMarks op b = false := by first | exact nobehind _ (by decide) (by decide) | rfl) : PE X (.Compare a [op] [b] pos) (tV (gd X) (Ts [oa, ob]) κ k (opF g [oa, ob])) :=
  (pe_cmpR ho ha.pe hb.pe hm).imp fun σ H Q h => op2_ok ha hb hi O h
/-- o[i] -/
theorem ve_ix {a b : Expr} {oa ob : Od} {g : List D → Option D} {r : R2} {pos : Pos} (hr : IxR X r) (O : OpS (gd X) [oa, ob] k g (r2 r)) (ha : VO X κ a oa) (hb : VO X κ b ob) (hi : NoT oa ob) (hs : PlainIx b := by exact fun _ _ => rfl) : PE X (.Subscript a b pos) (tV (gd X) (Ts [oa, ob]) κ k (opF g [oa, ob])) :=
  (pe_ix hr ha.pe hb.pe hs).imp fun σ H Q h => op2_ok ha hb hi O h
/-- a slice -/
def rs0 (r : V → Option Int → Option Int → Hp → VK → Prop) : List V → Hp → VK → Prop
  | [x], H, Q => r x none none H Q
  | _, _, _ => False
def rsL (r : V → Option Int → Option Int → Hp → VK → Prop) : List V → Hp → VK → Prop
  | [x, l], H, Q => ∃ i, l = .int i ∧ r x (some i) none H Q
  | _, _, _ => False
def rsH (r : V → Option Int → Option Int → Hp → VK → Prop) : List V → Hp → VK → Prop
  | [x, l], H, Q => ∃ i, l = .int i ∧ r x none (some i) H Q
  | _, _, _ => False
def rsB (r : V → Option Int → Option Int → Hp → VK → Prop) : List V → Hp → VK → Prop
  | [x, l, u], H, Q => ∃ j, u = .int j ∧ ∃ i, l = .int i ∧ r x (some i) (some j) H Q
  | _, _, _ => False
theorem ve_slL {a b : Expr} {oa ob : Od} {g : List D → Option D} {r : V → Option Int → Option Int → Hp → VK → Prop} {pos p2 : Pos} (hr : SlR X r) (O : OpS (gd X) [oa, ob] k g (rsL r)) (ha : VO X κ a oa) (hb : VO X κ b ob) (hi : NoT oa ob) : PE X (.Subscript a (.Slice (some b) none none p2) pos) (tV (gd X) (Ts [oa, ob]) κ k (opF g [oa, ob])) :=
  (pe_slice hr ha.pe (po_some hb.pe) po_none).imp fun σ H Q h => op_ok (wf2 ha hb hi) O h
theorem ve_slH {a b : Expr} {oa ob : Od} {g : List D → Option D} {r : V → Option Int → Option Int → Hp → VK → Prop} {pos p2 : Pos} (hr : SlR X r) (O : OpS (gd X) [oa, ob] k g (rsH r)) (ha : VO X κ a oa) (hb : VO X κ b ob) (hi : NoT oa ob) : PE X (.Subscript a (.Slice none (some b) none p2) pos) (tV (gd X) (Ts [oa, ob]) κ k (opF g [oa, ob])) :=
  (pe_slice hr ha.pe po_none (po_some hb.pe)).imp fun σ H Q h => op_ok (wf2 ha hb hi) O h
end
/-! ### calls of what is built in -/
section
variable {X : Cx} {κ κ' T U : List Nat} {k : Nat} {f : Sem0} {os : List Od} {x : Str} {e : Expr} {es : List Expr} {id : String} {g : List D → Option D} {r : List V → Hp → VK → Prop} {p pos : Pos}
theorem ve_callB (hc : CallR X (.builtin id) r) (O : OpS (gd X) os k g r) (hg : Gl X x) (hm : X.mg x = none) (hv : bootBuiltins x = some (.builtin id)) (ha : VA X κ (e :: es) os) (hn : x ≠ "__name__" := by decide) (hdb : (x == ("__debug__" : Str)) = false := by decide)
    (he : starEach (e :: es) X.env = (false, eval e X.env) :: starEach es X.env := by rfl) (hpl : (backTo pos (starEach es X.env)).any (·.1) = false := by rfl) : PE X (.Call (.Name x p) (e :: es) [] pos) (tV (gd X) (Ts os) κ k (opF g os)) :=
  (pe_callB hc hg hm hv ha.pa hn hdb he hpl).imp fun σ H Q h => op_ok ha.wf O h
theorem ve_callTy {Ty : String} (hc : CallR X (.type Ty) r) (O : OpS (gd X) os k g r) (hg : Gl X x) (hm : X.mg x = none) (hv : bootBuiltins x = some (.type Ty)) (ha : VA X κ (e :: es) os) (hn : x ≠ "__name__" := by decide) (hdb : (x == ("__debug__" : Str)) = false := by decide)
    (he : starEach (e :: es) X.env = (false, eval e X.env) :: starEach es X.env := by rfl) (hpl : (backTo pos (starEach es X.env)).any (·.1) = false := by rfl) : PE X (.Call (.Name x p) (e :: es) [] pos) (tV (gd X) (Ts os) κ k (opF g os)) :=
  (pe_callTy hc hg hm hv ha.pa hn hdb he hpl).imp fun σ H Q h => op_ok ha.wf O h
/-- displays -/
def rTup : List V → Hp → VK → Prop := fun xs H1 Q => xs.length ≤ sizeLine ∧ ∀ p, H1 p = none → Q (.ref p) (upd H1 p (.tup xs))
def rLst : List V → Hp → VK → Prop := fun xs H1 Q => xs.length ≤ sizeLine ∧ ∀ p, H1 p = none → Q (.ref p) (upd H1 p (.lst xs))
theorem ve_tup {x1} (O : OpS (gd X) os k g rTup) (ha : VA X κ es os) : PE X (.Tuple es x1 pos) (tV (gd X) (Ts os) κ k (opF g os)) := (pe_tup ha.pa).imp fun σ H Q h => op_ok ha.wf O h
theorem ve_lst (O : OpS (gd X) os k g rLst) (ha : VA X κ es os) : PE X (.List es pos) (tV (gd X) (Ts os) κ k (opF g os)) := (pe_lst ha.pa).imp fun σ H Q h => op_ok ha.wf O h
end

/-! ### tests -/
section
variable {X : Cx} {κ T U : List Nat} {k : Nat} {f : Sem0} {t u : List D → Option (Bool × List D)} {pos : Pos} {a b c e : Expr} {rest : List Expr}
abbrev Tst := List D → Option (Bool × List D)
/-- an expression whose value is a bool -/
def tstF (f : Sem0) : Tst := fun ρ => (f ρ).bind fun p => match p.1 with
  | .bl b => some (b, p.2)
  | _ => none
def notF (t : Tst) : Tst := fun ρ => (t ρ).bind fun p => some (!p.1, p.2)
def andF (t u : Tst) : Tst := fun ρ => (t ρ).bind fun p => if p.1 = true then u p.2 else some (false, p.2)
def orF (t u : Tst) : Tst := fun ρ => (t ρ).bind fun p => if p.1 = true then some (true, p.2) else u p.2
def ifF (t : Tst) (f g : Sem0) : Sem0 := fun ρ => (t ρ).bind fun p => if p.1 = true then f p.2 else g p.2
/-- a test as a value -/
def blF (t : Tst) : Sem0 := fun ρ => (t ρ).bind fun p => some (.bl p.1, p.2)
theorem bl_own {G : Wd} {P : Addr → Prop} {H : Hp} {v : V} {b : Bool} {F : List Addr} (o : OwnK G P H k v (.bl b) F) : v = .bl b ∧ F = [] := by
  obtain ⟨d, e⟩ := o.of_flat rfl
  cases d
  exact ⟨rfl, e⟩
theorem tst_ok {σ : L2.St} {H : Hp} {Q : Bool → Hp → Prop} {G : Wd} (h : tVT G T κ (tstF f) σ H Q) : tV G T κ k f σ H fun x H' => ∃ b, x = .bl b ∧ Q b H' := by
  obtain ⟨P, ρ, Fs, b, ρ', R, e, q⟩ := h
  unfold tstF at e
  obtain ⟨⟨d, ρ1⟩, e1, e⟩ := Option.bind_eq_some_iff.mp e
  cases d with
  | bl c =>
    cases e
    exact ⟨P, ρ, Fs, _, _, R, e1, fun v H' P' F Fs' R' o nd fr E st gr => ⟨_, (bl_own o).1, q H' P' Fs' R' E st gr⟩⟩
  | _ => cases e
theorem vt_val (h : PE X e (tV (gd X) T κ k f)) (he : ∀ whole, isTrue e X.env whole = (do let v ← whole; standAt e.pos; holding [v] (truthy v)) := by intro _; rfl) : PT X e (tVT (gd X) T κ (tstF f)) :=
  (pt_val h he).imp fun σ H Q w => tst_ok w
theorem vt_cmp {op : CmpOp} {oa ob : Od} {g : List D → Option D} {r : R2} (ho : OpR X (compareOp op) r) (O : OpS (gd X) [oa, ob] 0 g (r2 r)) (ha : VO X κ a oa) (hb : VO X κ b ob) (hi : NoT oa ob) (hm : behindInMarks op b = false := by first | exact nobehind _ (by decide) (by decide) | rfl) : PT X (.Compare a [op] [b] pos) (tVT (gd X) (Ts [oa, ob]) κ (tstF (opF g [oa, ob]))) :=
  (pt_cmpR ho ha.pe hb.pe hm).imp fun σ H Q h => op2_ok (k := 0) (Q := fun x H' => ∃ k, x = .bl k ∧ Q k H') ha hb hi O (tst_ok h)
theorem vt_not (h : PT X a (tVT (gd X) T κ t)) : PT X (.UnaryOp .Not a pos) (tVT (gd X) T κ (notF t)) := (pt_not h).imp fun σ H Q ⟨P, ρ, Fs, b, ρ', R, e, q⟩ => by
  unfold notF at e
  obtain ⟨⟨c, ρ1⟩, e1, e⟩ := Option.bind_eq_some_iff.mp e
  cases e
  exact ⟨P, ρ, Fs, c, _, R, e1, q⟩
theorem and_ok {G : Wd} {σ : L2.St} {H : Hp} {Q : Bool → Hp → Prop} (h : tVT G (T ++ U) κ (andF t u) σ H Q) : tAnd (tVT G T κ t) (tVT G U κ u) σ H Q := by
  obtain ⟨P, ρ, Fs, b, ρ', R, e, q⟩ := h
  unfold andF at e
  obtain ⟨⟨c, ρ1⟩, e1, e⟩ := Option.bind_eq_some_iff.mp e
  refine ⟨P, ρ, Fs, c, ρ1, R, e1, fun H' P' Fs' R' E st gr => ?_⟩
  cases c with
  | true => exact ⟨P', ρ1, Fs', b, ρ', R', e, fun H2 P2 Fs2 R2 E2 st2 gr2 => let s := Stp.trans R ⟨E, st, gr⟩ ⟨E2, st2, gr2⟩; q H2 P2 Fs2 R2 s.ext s.st s.gr⟩
  | false =>
    cases e
    have s := Stp.mono (U := T ++ U) R (fun i hi => List.mem_append_left _ hi) ⟨E, st, gr⟩
    exact q H' P' Fs' R' s.ext s.st s.gr
theorem or_ok {G : Wd} {σ : L2.St} {H : Hp} {Q : Bool → Hp → Prop} (h : tVT G (T ++ U) κ (orF t u) σ H Q) : tOr (tVT G T κ t) (tVT G U κ u) σ H Q := by
  obtain ⟨P, ρ, Fs, b, ρ', R, e, q⟩ := h
  unfold orF at e
  obtain ⟨⟨c, ρ1⟩, e1, e⟩ := Option.bind_eq_some_iff.mp e
  refine ⟨P, ρ, Fs, c, ρ1, R, e1, fun H' P' Fs' R' E st gr => ?_⟩
  cases c with
  | false => exact ⟨P', ρ1, Fs', b, ρ', R', e, fun H2 P2 Fs2 R2 E2 st2 gr2 => let s := Stp.trans R ⟨E, st, gr⟩ ⟨E2, st2, gr2⟩; q H2 P2 Fs2 R2 s.ext s.st s.gr⟩
  | true =>
    cases e
    have s := Stp.mono (U := T ++ U) R (fun i hi => List.mem_append_left _ hi) ⟨E, st, gr⟩
    exact q H' P' Fs' R' s.ext s.st s.gr
theorem _root_.L2.PW.imp {X : Cx} {e : Expr} {t t' : TT} (h : PW X e t) (i : ∀ σ H Q, t' σ H Q → t σ H Q) : PW X e t' := ⟨fun w pins s σ H Q I z => h.run w pins s σ H Q I (i σ H Q z)⟩
theorem vw_and1 (ha : PT X a (tVT (gd X) T κ t)) : PW X (.BoolOp .And [a] pos) (tVT (gd X) T κ t) := pw_and1 ha
theorem vw_or1 (ha : PT X a (tVT (gd X) T κ t)) : PW X (.BoolOp .Or [a] pos) (tVT (gd X) T κ t) := pw_or1 ha
theorem vw_and (ha : PT X a (tVT (gd X) T κ t)) (hb : PW X (.BoolOp .And (b :: rest) pos) (tVT (gd X) U κ u)) : PW X (.BoolOp .And (a :: b :: rest) pos) (tVT (gd X) (T ++ U) κ (andF t u)) := (pw_and ha hb).imp fun _ _ _ h => and_ok h
theorem vw_or (ha : PT X a (tVT (gd X) T κ t)) (hb : PW X (.BoolOp .Or (b :: rest) pos) (tVT (gd X) U κ u)) : PW X (.BoolOp .Or (a :: b :: rest) pos) (tVT (gd X) (T ++ U) κ (orF t u)) := (pw_or ha hb).imp fun _ _ _ h => or_ok h
/-- a if t else b -/
theorem ve_if {g : Sem0} {V : List Nat} (hc : PT X c (tVT (gd X) T κ t)) (ha : PE X a (tV (gd X) U κ k f)) (hb : PE X b (tV (gd X) V κ k g)) : PE X (.IfExp c a b pos) (tV (gd X) (T ++ (U ++ V)) κ k (ifF t f g)) :=
  (pe_ifExp hc ha hb).imp fun σ H Q ⟨P, ρ, Fs, d, ρ', R, e, q⟩ => by
    unfold ifF at e
    obtain ⟨⟨c, ρ1⟩, e1, e⟩ := Option.bind_eq_some_iff.mp e
    refine ⟨P, ρ, Fs, c, ρ1, R, e1, fun H' P' Fs' R' E st gr => ?_⟩
    cases c with
    | true => exact ⟨P', ρ1, Fs', d, ρ', R', e, fun v H2 P2 F Fs2 R2 o nd fr E2 st2 gr2 => let s := Stp.mono (U := T ++ (U ++ V)) R (fun i h => by simp only [List.mem_append] at *; rcases h with h | h <;> simp [h]) (Stp.trans R ⟨E, st, gr⟩ ⟨E2, st2, gr2⟩); q v H2 P2 F Fs2 R2 o nd (fun a m => ⟨(fr a m).1, back_none E (fr a m).2.1, (fr a m).2.2⟩) s.ext s.st s.gr⟩
    | false => exact ⟨P', ρ1, Fs', d, ρ', R', e, fun v H2 P2 F Fs2 R2 o nd fr E2 st2 gr2 => let s := Stp.mono (U := T ++ (U ++ V)) R (fun i h => by simp only [List.mem_append] at *; rcases h with h | h <;> simp [h]) (Stp.trans R ⟨E, st, gr⟩ ⟨E2, st2, gr2⟩); q v H2 P2 F Fs2 R2 o nd (fun a m => ⟨(fr a m).1, back_none E (fr a m).2.1, (fr a m).2.2⟩) s.ext s.st s.gr⟩
/-- tests of truth -/
def truD : D → Option Bool
  | .non => some false
  | .bl b => some b
  | .int i => some (i != 0)
  | .str s => if s.length ≤ sizeLine then some ((s.length : Int) != 0) else none
  | .lst xs => some (!xs.isEmpty)
  | .tup xs => some (!xs.isEmpty)
  | .dct 0 ks _ => some (!ks.isEmpty)
  | .dct .. => none
  | .und => none
end
end VS

set_option Elab.async false
set_option linter.all false
set_option maxRecDepth 100000
/-! Functions over data: promises, bodies, calls. -/
namespace VS
open PySem PySem.Spec PyProof.Rows L2

/-- a def's promise: f on the arguments' data; T: the parameters that are changed in place -/
def spD (G : Wd) (T κ : List Nat) (k : Nat) (f : Sem0) : Sp := fun vs H Q _ => tV G T κ k f (vs.map some) H Q
/-- the parameters behind a call: those of Φ as they are now -/
def rest (Φ : List Nat) : Nat → List D → List D → List D
  | _, [], _ => []
  | j, d :: ds, es => (if Φ.contains j then es.headD .und else d) :: rest Φ (j + 1) ds es.tail
def fnF (Φ : List Nat) (n : Nat) (s : SemS) : Sem0 := fun ds => (s (ds ++ List.replicate (n - ds.length) .und)).bind fun o => match o with
  | .rt d ρ' => some (d, rest Φ 0 ds ρ')
  | .nx ρ' => some (.non, rest Φ 0 ds ρ')
  | _ => none
theorem rest_length (Φ : List Nat) : ∀ (j : Nat) (ds es : List D), (rest Φ j ds es).length = ds.length
  | _, [], _ => rfl
  | j, _ :: ds, es => by unfold rest; rw [List.length_cons, List.length_cons, rest_length Φ]
theorem rest_get (Φ : List Nat) : ∀ (j : Nat) (ds es : List D) (i : Nat), (rest Φ j ds es)[i]? = if i < ds.length then (if Φ.contains (j + i) then some (es[i]?.getD .und) else ds[i]?) else none
  | j, [], es, i => by simp [rest]
  | j, d :: ds, es, 0 => by
    unfold rest
    cases es <;> simp
    all_goals split <;> rfl
  | j, d :: ds, es, i + 1 => by
    unfold rest
    rw [List.getElem?_cons_succ, rest_get Φ (j + 1) ds es.tail i, List.length_cons, List.getElem?_cons_succ, Nat.add_right_comm, Nat.add_assoc j i 1]
    cases es <;> simp
section
variable {K : PySem.W.Frag} {P : Program} {w : World} {mg : Str → Option Value} {base : Heap}
theorem start_get {N : List Str} {vs : List V} {i : Nat} (h : i < vs.length) : (L2.start N vs)[i]? = (vs.map some)[i]? := by
  unfold L2.start
  rw [List.getElem?_append_left (by simpa using h)]
/-- what a body ends with is what the promise says -/
theorem body_ok {G : Wd} {N : List Str} {Φ κp κl κ' : List Nat} {k : Nat} {s : SemS} (hl : (κp ++ κl).length = N.length) (hz : ∀ i, i ∉ Φ → κp.getD i 0 = 0) {vs : List V} {H : Hp} {Q : VK} (h : tV G Φ κp k (fnF Φ N.length s) (vs.map some) H Q) :
    tS G Φ (κp ++ κl) κ' [] k s { nx := fun _ H' => Q .non H', rt := Q } (L2.start N vs) H := by
  obtain ⟨P0, ds, Fs0, d, ρ', R, e, q⟩ := h
  have hlen : vs.length = ds.length := by have := R.len; simpa using this
  have hkl : κp.length = ds.length := R.lenk
  unfold fnF at e
  obtain ⟨o, e1, e⟩ := Option.bind_eq_some_iff.mp e
  have e0 : N.length - ds.length = κl.length := by rw [List.length_append] at hl; omega
  have hF : ∀ i a, a ∈ Fs0 i → i < ds.length := fun i a m => by
    obtain ⟨d, v, h1, _⟩ := R.some m
    obtain ⟨h, _⟩ := List.getElem?_eq_some_iff.mp h1
    exact h
  have hkp : ∀ i, i < ds.length → (κp ++ κl).getD i 0 = κp.getD i 0 := fun i hi => by
    rw [List.getD_eq_getElem?_getD, List.getElem?_append_left (by omega), ← List.getD_eq_getElem?_getD]
  have R0 : Rep G P0 H (L2.start N vs) (ds ++ List.replicate (N.length - ds.length) .und) (κp ++ κl) Fs0 := by
    refine ⟨by unfold L2.start; simp; omega, by simp; omega, fun i d hi hu => ?_, fun i hi => ?_, R.dj, R.nd, R.np, R.pt⟩
    · have hlt : i < ds.length := by
        by_cases c : i < ds.length
        · exact c
        · rw [List.getElem?_append_right (by omega), List.getElem?_replicate] at hi
          split at hi
          · cases hi; exact absurd rfl hu
          · cases hi
      rw [List.getElem?_append_left hlt] at hi
      obtain ⟨v, h1, h2⟩ := R.at_ i d hi hu
      exact ⟨v, by rw [start_get (by omega)]; exact h1, by rw [hkp i hlt]; exact h2⟩
    · by_cases hlt : i < ds.length
      · exact R.un i fun d hd => hi d (by rw [List.getElem?_append_left hlt]; exact hd)
      · cases hm : Fs0 i with
        | nil => rfl
        | cons a r => exact absurd (hF i a (by rw [hm]; exact List.mem_cons_self)) hlt
  have own0 : ∀ i a, a ∈ Fs0 i → i ∈ Φ := fun i a m => Classical.byContradiction fun hi => by
    obtain ⟨d, v, h1, h2, h3, h4⟩ := R.some m
    rw [hz i hi] at h4
    rw [h4.2] at m
    cases m
  let M : Fm := ⟨Φ, κp ++ κl, L2.start N vs, P0, H, Fs0, []⟩
  have A0 : M.At G P0 H (L2.start N vs) (κp ++ κl) Fs0 := ⟨Ext.refl (R0.zm _) (R0.zp _), fun _ _ => rfl, fun _ _ => rfl, fun i a m => .inl ⟨own0 i a m, m⟩, fun m hm => by cases hm⟩
  have fin : ∀ {v : V} {d' : D} {σ' : L2.St} {H' : Hp} {P' : Addr → Prop} {Fs' : Nat → List Addr} {κ'' : List Nat} {F : List Addr} {ρ1 : List D}, Rep G P' H' σ' ρ1 κ'' Fs' → M.At G P' H' σ' κ'' Fs' → OwnK G P' H' k v d' F → F.Nodup → (∀ a ∈ F, ¬ P' a ∧ H a = none ∧ ∀ i, a ∉ Fs' i) →
      d' = d → rest Φ 0 ds ρ1 = ρ' → Q v H' := by
    intro v d' σ' H' P' Fs' κ'' F ρ1 R' A' ow nd fr ed er
    subst ed
    subst er
    let Fr : Nat → List Addr := fun i => if i < ds.length ∧ Φ.contains i = true then Fs' i else []
    have hFr : ∀ i a, a ∈ Fr i → a ∈ Fs' i ∧ i < ds.length ∧ i ∈ Φ := fun i a m => by
      by_cases c : i < ds.length ∧ Φ.contains i = true
      · have : Fr i = Fs' i := if_pos c
        rw [this] at m
        exact ⟨m, c.1, by simpa using c.2⟩
      · have : Fr i = [] := if_neg c
        rw [this] at m; cases m
    refine q v H' P' F Fr ⟨by simpa [rest_length] using hlen, by rw [rest_length]; exact hkl, fun i d hi hu => ?_, fun i hi => ?_, fun i j a h1 h2 => R'.dj i j a (hFr i a h1).1 (hFr j a h2).1, fun i => ?_, fun i a m => R'.np i a (hFr i a m).1, R'.pt⟩ ow nd (fun a m => ⟨(fr a m).1, (fr a m).2.1, fun i z => (fr a m).2.2 i (hFr i a z).1⟩) A'.ext (fun i hi => ?_) fun i a m => ?_
    · rw [rest_get] at hi
      split at hi
      · rename_i hlt
        rw [Nat.zero_add] at hi
        split at hi
        · rename_i hc
          have hΦ : i ∈ Φ := by simpa using hc
          have e2 : ρ1[i]? = some d := by
            cases z : ρ1[i]? with
            | none => rw [z] at hi; cases hi; exact absurd rfl hu
            | some y => rw [z] at hi; exact hi
          obtain ⟨v1, h1, h2⟩ := R'.at_ i d e2 hu
          have h3 := A'.same i hΦ
          have h4 := A'.kin i hΦ
          refine ⟨v1, ?_, ?_⟩
          · rw [← start_get (N := N) (by omega)]
            exact h3.symm.trans h1
          · have : Fr i = Fs' i := if_pos ⟨hlt, hc⟩
            rw [this]
            rw [h4, show M.κ0.getD i 0 = κp.getD i 0 from hkp i hlt] at h2
            exact h2
        · rename_i hc
          have hΦ : i ∉ Φ := by simpa using hc
          obtain ⟨v1, h1, h2⟩ := R.at_ i d hi hu
          rw [hz i hΦ] at h2 ⊢
          have : Fr i = [] := if_neg fun z => hc z.2
          rw [this]
          exact ⟨v1, h1, h2.1.ext A'.ext, rfl⟩
      · cases hi
    · by_cases c : i < ds.length ∧ Φ.contains i = true
      · have : Fr i = Fs' i := if_pos c
        rw [this]
        refine R'.un i fun d hd => hi d ?_
        rw [rest_get, if_pos c.1, Nat.zero_add, if_pos c.2, hd]
        rfl
      · exact if_neg c
    · by_cases c : i < ds.length ∧ Φ.contains i = true
      · have : Fr i = Fs' i := if_pos c
        rw [this]; exact R'.nd i
      · have : Fr i = [] := if_neg c
        rw [this]; exact List.nodup_nil
    · have hc : Φ.contains i = false := by simpa using hi
      have e2 : Fr i = [] := if_neg fun z => by rw [hc] at z; cases z.2
      refine ⟨?_, ?_⟩
      · rw [e2]
        cases hm : Fs0 i with
        | nil => rfl
        | cons a r => exact absurd (own0 i a (by rw [hm]; exact List.mem_cons_self)) hi
      · rw [rest_get, Nat.zero_add, hc]
        by_cases hlt : i < ds.length
        · rw [if_pos hlt]; rfl
        · rw [if_neg hlt, List.getElem?_eq_none (by omega)]
    · obtain ⟨m, _, _⟩ := hFr i a m
      rcases A'.own i a m with z | z
      · exact .inl z.2
      · exact .inr z
  refine ⟨M, P0, _, Fs0, o, rfl, R0, A0, e1, ?_⟩
  cases o with
  | nx ρ1 =>
    injection e with e; injection e with e2 e3
    exact fun σ' H' P' Fs' R' A' => fin R' A' (F := []) (OwnK.flat (F := []) .non rfl) List.nodup_nil (fun a m => by cases m) e2 e3
  | rt d1 ρ1 =>
    injection e with e; injection e with e2 e3
    exact fun v σ' H' P' Fs' κ'' F R' A' ow nd fr => fin R' A' ow nd fr e2 e3
  | bk _ => cases e
  | ct _ => cases e
theorem fn_ok {x qual : Str} {st : Stmt} {f : Addr} {fd : FuncData} {N ps : List Str} {lv k : Nat} {Φ κp κl κ' : List Nat} {s : SemS} (F : Fun K x qual st f fd) (S : FnScope N ps (defScope st)) (hp : κp.length = ps.length) (hl : (κp ++ κl).length = N.length) (hz : ∀ i, i ∉ Φ → κp.getD i 0 = 0)
    (hb : ∀ (cdv : Value) (A : Around) (outer : List Env) (s0 : Shared) (H : Hp) (E : XK), Room lv (A.deeper (envOfC qual (defScope st) s0.heap.objs.size f cdv)) → PSs (cxOf CX0 P w K mg base N qual (defScope st) f cdv A outer s0 H E).nox (defBody st) (tS ⟨K, P, w⟩ Φ (κp ++ κl) κ' [] k s)) :
    FnOk P w K mg base CX0 (lv + 1) f fd ps (spD ⟨K, P, w⟩ Φ κp k (fnF Φ N.length s)) := by
  refine F.ok S (fun vs H Q E h => ?_) fun cdv A outer s0 H vs Q E hr h => ⟨_, hb cdv A outer s0 H E hr, body_ok hl hz h⟩
  obtain ⟨P0, ds, Fs0, d, ρ', R, e, q⟩ := h
  have h1 := R.len
  have h2 := R.lenk
  rw [List.length_map] at h1
  omega
end
end VS

set_option Elab.async false
set_option linter.all false
set_option maxRecDepth 100000
/-! Calls of own functions. -/
namespace VS
open PySem PySem.Spec PyProof.Rows L2

def alS : List Od → List Nat
  | [] => []
  | o :: os => match o.al with
    | some i => i :: alS os
    | none => alS os
/-- where slot i is an argument -/
def argAt (i : Nat) : List Od → Option Nat
  | [] => none
  | o :: os => if o.al = some i then some 0 else (argAt i os).map (· + 1)
/-- the slots that were given are as they are now -/
def wb : List Od → List D → List D → List D
  | o :: os, d :: ds, ρ => match o.al with
    | some i => wb os ds (ρ.set i d)
    | none => wb os ds ρ
  | _, _, ρ => ρ
def callF (os : List Od) (fn : Sem0) : Sem0 := fun ρ => (seqF os ρ).bind fun p => (fn p.1).bind fun q => some (q.1, wb os q.2 p.2)
theorem argAt_none {i : Nat} : ∀ {os : List Od}, argAt i os = none → i ∉ alS os
  | [], _ => by simp [alS]
  | o :: os, h => by
    unfold argAt at h
    split at h
    · cases h
    · rename_i hn
      have h2 : argAt i os = none := by
        cases e : argAt i os with
        | none => rfl
        | some j => rw [e] at h; cases h
      have := argAt_none h2
      unfold alS
      cases ha : o.al with
      | none => exact this
      | some j =>
        simp only [List.mem_cons, not_or]
        exact ⟨fun e => hn (by rw [ha, e]), this⟩
theorem argAt_some {i j : Nat} : ∀ {os : List Od}, argAt i os = some j → ∃ o, os[j]? = some o ∧ o.al = some i ∧ i ∈ alS os
  | [], h => by cases h
  | o :: os, h => by
    unfold argAt at h
    split at h
    · rename_i ha
      cases h
      exact ⟨o, rfl, ha, by unfold alS; rw [ha]; exact List.mem_cons_self⟩
    · cases e : argAt i os with
      | none => rw [e] at h; cases h
      | some j' =>
        rw [e] at h
        cases h
        obtain ⟨o', h1, h2, h3⟩ := argAt_some e
        refine ⟨o', by simpa using h1, h2, ?_⟩
        unfold alS
        split
        · exact List.mem_cons_of_mem _ h3
        · exact h3
theorem argAt_of {i j : Nat} : ∀ {os : List Od} {o : Od}, (alS os).Nodup → os[j]? = some o → o.al = some i → argAt i os = some j
  | [], _, _, h, _ => by simp at h
  | o' :: os, o, nd, h, ha => by
    unfold argAt
    cases j with
    | zero =>
      simp at h
      subst h
      rw [if_pos ha]
    | succ j =>
      have h' : os[j]? = some o := by simpa using h
      have nd' : (alS os).Nodup := by
        unfold alS at nd
        split at nd
        · exact (List.nodup_cons.mp nd).2
        · exact nd
      have r := argAt_of nd' h' ha
      have hne : o'.al ≠ some i := fun z => by
        unfold alS at nd
        rw [z] at nd
        obtain ⟨_, _, _, q⟩ := argAt_some r
        exact (List.nodup_cons.mp nd).1 q
      rw [if_neg hne, r]
      rfl
theorem wb_length : ∀ (os : List Od) (ds ρ : List D), (wb os ds ρ).length = ρ.length
  | [], _, _ => by unfold wb; rfl
  | o :: os, [], _ => by unfold wb; rfl
  | o :: os, d :: ds, ρ => by
    unfold wb
    split
    · rw [wb_length os]; simp
    · exact wb_length os ds ρ
theorem wb_get (i : Nat) : ∀ (os : List Od) (ds ρ : List D), (alS os).Nodup → ds.length = os.length → (wb os ds ρ)[i]? = match argAt i os with
    | some j => if i < ρ.length then ds[j]? else none
    | none => ρ[i]?
  | [], ds, ρ, _, _ => by unfold wb argAt; rfl
  | o :: os, [], ρ, _, h => by cases h
  | o :: os, d :: ds, ρ, nd, h => by
    have h' : ds.length = os.length := by simpa using h
    unfold wb argAt
    cases ha : o.al with
    | none =>
      have nd' : (alS os).Nodup := by unfold alS at nd; rw [ha] at nd; exact nd
      simp only
      rw [wb_get i os ds ρ nd' h', if_neg (by simp)]
      cases e : argAt i os <;> simp
    | some l =>
      have nd1 : (l :: alS os).Nodup := by unfold alS at nd; rw [ha] at nd; exact nd
      obtain ⟨n1, n2⟩ := List.nodup_cons.mp nd1
      simp only
      rw [wb_get i os ds _ n2 h', List.length_set]
      by_cases hl : l = i
      · subst hl
        have e : argAt l os = none := by
          cases e : argAt l os with
          | none => rfl
          | some j => exact absurd (argAt_some e).choose_spec.2.2 n1
        rw [e, if_pos rfl]
        simp only [List.getElem?_cons_zero]
        by_cases c : l < ρ.length
        · rw [if_pos c, List.getElem?_set_self c]
        · rw [if_neg c, List.getElem?_eq_none (by simpa using c)]
      · rw [if_neg (by simpa using hl)]
        cases e : argAt i os with
        | none => simp [List.getElem?_set_ne hl]
        | some j => simp
section
variable {R : Od → V → D → List Addr → Prop}
theorem Quad.length : ∀ {os : List Od} {vs : List V} {ds : List D} {Gs : List (List Addr)}, Quad R os vs ds Gs → vs.length = os.length ∧ ds.length = os.length ∧ Gs.length = os.length
  | _, _, _, _, .nil => ⟨rfl, rfl, rfl⟩
  | _, _, _, _, .cons _ q => by obtain ⟨a, b, c⟩ := q.length; simp [a, b, c]
theorem Quad.get : ∀ {os : List Od} {vs : List V} {ds : List D} {Gs : List (List Addr)} {j : Nat} {d : D}, Quad R os vs ds Gs → ds[j]? = some d → ∃ o v F, os[j]? = some o ∧ vs[j]? = some v ∧ Gs[j]? = some F ∧ R o v d F
  | _, _, _, _, _, _, .nil, h => by simp at h
  | _, _, _, _, 0, d, .cons r q, h => by simp at h; subst h; exact ⟨_, _, _, rfl, rfl, rfl, r⟩
  | _, _, _, _, j + 1, d, .cons r q, h => by
    obtain ⟨o, v, F, a, b, c, e⟩ := Quad.get (j := j) q (by simpa using h)
    exact ⟨o, v, F, by simpa using a, by simpa using b, by simpa using c, e⟩
theorem Quad.getO : ∀ {os : List Od} {vs : List V} {ds : List D} {Gs : List (List Addr)} {j : Nat} {o : Od}, Quad R os vs ds Gs → os[j]? = some o → ∃ v d F, vs[j]? = some v ∧ ds[j]? = some d ∧ Gs[j]? = some F ∧ R o v d F
  | _, _, _, _, _, _, .nil, h => by simp at h
  | _, _, _, _, 0, d, .cons r q, h => by simp at h; subst h; exact ⟨_, _, _, rfl, rfl, rfl, r⟩
  | _, _, _, _, j + 1, d, .cons r q, h => by
    obtain ⟨v, d, F, b, b', c, e⟩ := Quad.getO (j := j) q (by simpa using h)
    exact ⟨v, d, F, by simpa using b, by simpa using b', by simpa using c, e⟩
end
/-- what the temps are: disjoint -/
theorem temps_at {os : List Od} : ∀ {Gs : List (List Addr)} {j : Nat} {o : Od} {F : List Addr}, os[j]? = some o → o.al = none → Gs[j]? = some F → ∀ a ∈ F, a ∈ temps os Gs := by
  induction os with
  | nil => intro Gs j o F h; simp at h
  | cons o' os ih =>
    intro Gs j o F h ha hG a m
    cases Gs with
    | nil => simp at hG
    | cons F' Gs =>
      unfold temps
      cases j with
      | zero =>
        simp at h hG
        subst h
        subst hG
        rw [ha]
        exact List.mem_append_left _ m
      | succ j =>
        have := ih (j := j) (by simpa using h) ha (by simpa using hG) a m
        split
        · exact this
        · exact List.mem_append_right _ this
theorem temps_dj {os : List Od} : ∀ {Gs : List (List Addr)} {j l : Nat} {o o' : Od} {F F' : List Addr} {a : Addr}, (temps os Gs).Nodup → os[j]? = some o → o.al = none → Gs[j]? = some F → os[l]? = some o' → o'.al = none → Gs[l]? = some F' → a ∈ F → a ∈ F' → j = l := by
  induction os with
  | nil => intro Gs j l o o' F F' a _ h; simp at h
  | cons o0 os ih =>
    intro Gs j l o o' F F' a nd h ha hG h' ha' hG' m m'
    cases Gs with
    | nil => simp at hG
    | cons F0 Gs =>
      unfold temps at nd
      have nd2 : (temps os Gs).Nodup := by
        split at nd
        · exact nd
        · exact (List.nodup_append.mp nd).2.1
      cases j with
      | zero =>
        cases l with
        | zero => rfl
        | succ l =>
          simp at h hG
          subst h
          subst hG
          rw [ha] at nd
          exact absurd rfl ((List.nodup_append.mp nd).2.2 a m a (temps_at (j := l) (by simpa using h') ha' (by simpa using hG') a m'))
      | succ j =>
        cases l with
        | zero =>
          simp at h' hG'
          subst h'
          subst hG'
          rw [ha'] at nd
          exact absurd rfl ((List.nodup_append.mp nd).2.2 a m' a (temps_at (j := j) (by simpa using h) ha (by simpa using hG) a m))
        | succ l => rw [ih (j := j) (l := l) nd2 (by simpa using h) ha (by simpa using hG) (by simpa using h') ha' (by simpa using hG') m m']
theorem temps_nd {os : List Od} : ∀ {Gs : List (List Addr)} {j : Nat} {o : Od} {F : List Addr}, (temps os Gs).Nodup → os[j]? = some o → o.al = none → Gs[j]? = some F → F.Nodup := by
  induction os with
  | nil => intro Gs j o F _ h; simp at h
  | cons o0 os ih =>
    intro Gs j o F nd h ha hG
    cases Gs with
    | nil => simp at hG
    | cons F0 Gs =>
      unfold temps at nd
      cases j with
      | zero =>
        simp at h hG
        subst h
        subst hG
        rw [ha] at nd
        exact (List.nodup_append.mp nd).1
      | succ j =>
        refine ih (j := j) ?_ (by simpa using h) ha (by simpa using hG)
        split at nd
        · exact nd
        · exact (List.nodup_append.mp nd).2.1
section
variable {X : Cx} {κ T : List Nat} {k : Nat}
/-- a call by data: the callee's frame out of the arguments, the caller's behind it -/
theorem call_at {G : Wd} {os : List Od} {Tc κp : List Nat} {fn : Sem0} {σ : L2.St} {H : Hp} {Q : VK} (wf : WfSeq κ os) (hκ : os.map (·.k) = κp) (nd : (alS os).Nodup) (h : tV G (Ts os ++ alS os) κ k (callF os fn) σ H Q) :
    argsT G κ os σ H fun vs H1 => tV G Tc κp k fn (vs.map some) H1 Q := by
  obtain ⟨P, ρ, Fs, d, ρ', R, e, q⟩ := h
  unfold callF at e
  obtain ⟨⟨ds, ρ1⟩, e1, e⟩ := Option.bind_eq_some_iff.mp e
  obtain ⟨⟨d', ds'⟩, e2, e⟩ := Option.bind_eq_some_iff.mp e
  cases e
  refine args_ok os wf R e1 fun vs H1 P1 Gs Fs1 R1 qd ndt fr E st gr => ?_
  obtain ⟨l1, l2, l3⟩ := qd.length
  let Fc : Nat → List Addr := fun j => Gs.getD j []
  have hFc : ∀ j F, Gs[j]? = some F → Fc j = F := fun j F h => by show Gs.getD j [] = F; rw [List.getD_eq_getElem?_getD, h]; rfl
  have hFn : ∀ j, Gs[j]? = none → Fc j = [] := fun j h => by show Gs.getD j [] = []; rw [List.getD_eq_getElem?_getD, h]; rfl
  -- an address of an argument
  have hat : ∀ j a, a ∈ Fc j → ∃ o v d F, os[j]? = some o ∧ vs[j]? = some v ∧ ds[j]? = some d ∧ Gs[j]? = some F ∧ OdAt G P1 H1 σ Fs1 o v d F ∧ a ∈ F := fun j a m => by
    cases hg : Gs[j]? with
    | none => rw [hFn j hg] at m; cases m
    | some F =>
      rw [hFc j F hg] at m
      have hj : j < os.length := by
        obtain ⟨h, _⟩ := List.getElem?_eq_some_iff.mp hg
        omega
      obtain ⟨v, d, F', a1, a2, a3, a4⟩ := qd.getO (List.getElem?_eq_getElem hj)
      rw [hg] at a3
      cases a3
      exact ⟨_, v, d, F, List.getElem?_eq_getElem hj, a1, a2, rfl, a4, m⟩
  have npc : ∀ j a, a ∈ Fc j → ¬ P1 a := fun j a m => by
    obtain ⟨o, v, d, F, h1, h2, h3, h4, h5, m⟩ := hat j a m
    obtain ⟨h6, h7⟩ := h5
    cases ha : o.al with
    | some i => rw [ha] at h7; obtain ⟨rfl, _⟩ := h7; exact R1.np i a m
    | none => rw [ha] at h7; exact (h7 a m).1
  have Rc : Rep G P1 H1 (vs.map some) ds κp Fc := by
    refine ⟨by simp [l1, l2], by rw [← hκ]; simp [l2], fun j d hj hu => ?_, fun j hj => ?_, fun j l a m m' => ?_, fun j => ?_, npc, R1.pt⟩
    · obtain ⟨o, v, F, h1, h2, h3, h4⟩ := qd.get hj
      refine ⟨v, by rw [List.getElem?_map, h2]; rfl, ?_⟩
      rw [hFc j F h3, ← hκ, List.getD_eq_getElem?_getD, List.getElem?_map, h1]
      exact h4.1
    · cases hm : Fc j with
      | nil => rfl
      | cons a r =>
        obtain ⟨o, v, d, F, h1, h2, h3, h4, h5, m⟩ := hat j a (by rw [hm]; exact List.mem_cons_self)
        have := hj d h3
        subst this
        exact h5.1.ne_und.elim
    · obtain ⟨o, v, d, F, h1, h2, h3, h4, h5, ma⟩ := hat j a m
      obtain ⟨o', v', d', F', h1', h2', h3', h4', h5', ma'⟩ := hat l a m'
      have k1 := h5.2
      have k2 := h5'.2
      cases ha : o.al with
      | some i =>
        rw [ha] at k1
        obtain ⟨rfl, _⟩ := k1
        cases ha' : o'.al with
        | some i' =>
          rw [ha'] at k2
          obtain ⟨rfl, _⟩ := k2
          have : i = i' := R1.dj i i' a ma ma'
          subst this
          have x1 := argAt_of nd h1 ha
          have x2 := argAt_of nd h1' ha'
          rw [x1] at x2
          exact Option.some.inj x2
        | none => rw [ha'] at k2; exact absurd ma ((k2 a ma').2 i)
      | none =>
        rw [ha] at k1
        cases ha' : o'.al with
        | some i' =>
          rw [ha'] at k2
          obtain ⟨rfl, _⟩ := k2
          exact absurd ma' ((k1 a ma).2 i')
        | none => exact temps_dj ndt h1 ha h4 h1' ha' h4' ma ma'
    · cases hg : Gs[j]? with
      | none => rw [hFn j hg]; exact List.nodup_nil
      | some F =>
        rw [hFc j F hg]
        have hj : j < os.length := by
          obtain ⟨h, _⟩ := List.getElem?_eq_some_iff.mp hg
          omega
        obtain ⟨v, d, F', a1, a2, a3, a4⟩ := qd.getO (List.getElem?_eq_getElem hj)
        rw [hg] at a3
        cases a3
        cases ha : (os[j]).al with
        | some i => have := a4.2; rw [ha] at this; rw [this.1]; exact R1.nd i
        | none => exact temps_nd ndt (List.getElem?_eq_getElem hj) ha hg
  refine ⟨P1, ds, Fc, d', ds', Rc, e2, fun v H2 P2 F Fc' R2 ow nf fr2 E2 st2 gr2 => ?_⟩
  -- the caller behind it
  have ld : ds'.length = os.length := by
    have := R2.lenk
    rw [← hκ, List.length_map] at this
    omega
  let Fw : Nat → List Addr := fun i => match argAt i os with
    | some j => Fc' j
    | none => Fs1 i
  have wS : ∀ {i j}, argAt i os = some j → Fw i = Fc' j := fun {i j} h => by show (match argAt i os with | some j => Fc' j | none => Fs1 i) = _; rw [h]
  have wN : ∀ {i}, argAt i os = none → Fw i = Fs1 i := fun {i} h => by show (match argAt i os with | some j => Fc' j | none => Fs1 i) = _; rw [h]
  have slot : ∀ {i j}, argAt i os = some j → Fc j = Fs1 i ∧ (vs.map some)[j]? = σ[i]? ∧ κp.getD j 0 = κ.getD i 0 := fun {i j} h => by
    obtain ⟨o, h1, h2, _⟩ := argAt_some h
    obtain ⟨v, d, F', a1, a2, a3, a4⟩ := qd.getO h1
    have := a4.2
    rw [h2] at this
    have wo : o = odS κ i := by
      have : ∀ {os : List Od} {j : Nat} {o : Od}, WfSeq κ os → os[j]? = some o → o.Wf κ := by
        intro os
        induction os with
        | nil => intro j o _ h; simp at h
        | cons o0 os ih =>
          intro j o w h
          cases j with
          | zero => simp at h; subst h; exact w.1
          | succ j => exact ih (j := j) w.2.2 (by simpa using h)
      exact (this wf h1).al i h2
    refine ⟨by rw [hFc j F' a3, this.1], by rw [List.getElem?_map, a1, this.2]; rfl, ?_⟩
    rw [← hκ, List.getD_eq_getElem?_getD, List.getElem?_map, h1, wo]
    rfl
  -- an old address of a slot that is no argument stands
  have keepN : ∀ {i}, argAt i os = none → ∀ a ∈ Fs1 i, ¬ Zt Tc Fc a := fun {i} h a m ⟨j, _, z⟩ => by
    obtain ⟨o, v, d, F, h1, h2, h3, h4, h5, ma⟩ := hat j a z
    have k1 := h5.2
    cases ha : o.al with
    | some i' =>
      rw [ha] at k1
      obtain ⟨rfl, _⟩ := k1
      have := R1.dj i i' a m ma
      subst this
      rw [argAt_of nd h1 ha] at h
      cases h
    | none => rw [ha] at k1; exact (k1 a ma).2 i m
  have Rw : Rep G P2 H2 σ (wb os ds' ρ1) κ Fw := by
    refine ⟨by rw [wb_length]; exact R1.len, by rw [wb_length]; exact R1.lenk, fun i d hi hu => ?_, fun i hi => ?_, fun i l a m m' => ?_, fun i => ?_, fun i a m => ?_, R2.pt⟩
    · rw [wb_get i os ds' ρ1 nd ld] at hi
      cases hx : argAt i os with
      | none =>
        rw [hx] at hi
        obtain ⟨v, a1, a2⟩ := R1.at_ i d hi hu
        exact ⟨v, a1, by rw [wN hx]; exact a2.ext E2 (keepN hx)⟩
      | some j =>
        rw [hx] at hi
        simp only at hi
        split at hi
        · obtain ⟨v, a1, a2⟩ := R2.at_ j d hi hu
          obtain ⟨s1, s2, s3⟩ := slot hx
          exact ⟨v, by rw [← s2]; exact a1, by rw [wS hx, ← s3]; exact a2⟩
        · cases hi
    · cases hx : argAt i os with
      | none => rw [wN hx]; exact R1.un i fun d hd => hi d (by rw [wb_get i os ds' ρ1 nd ld, hx]; exact hd)
      | some j =>
        rw [wS hx]
        refine R2.un j fun d hd => hi d ?_
        rw [wb_get i os ds' ρ1 nd ld, hx]
        obtain ⟨s1, s2, s3⟩ := slot hx
        have hlt : i < ρ1.length := by
          rw [← R1.len]
          obtain ⟨o, h1, h2, _⟩ := argAt_some hx
          obtain ⟨v, d, F', a1, a2, a3, a4⟩ := qd.getO h1
          rw [List.getElem?_map, a1] at s2
          obtain ⟨h, _⟩ := List.getElem?_eq_some_iff.mp s2.symm
          exact h
        simp only
        rw [if_pos hlt]
        exact hd
    · cases hx : argAt i os with
      | none =>
        rw [wN hx] at m
        cases hy : argAt l os with
        | none => rw [wN hy] at m'; exact R1.dj i l a m m'
        | some j' =>
          rw [wS hy] at m'
          rcases gr2 j' a m' with z | z
          · rw [(slot hy).1] at z; exact R1.dj i l a m z
          · obtain ⟨u, e5, _⟩ := R1.isM m; rw [z] at e5; cases e5
      | some j =>
        rw [wS hx] at m
        cases hy : argAt l os with
        | none =>
          rw [wN hy] at m'
          rcases gr2 j a m with z | z
          · rw [(slot hx).1] at z; exact R1.dj i l a z m'
          · obtain ⟨u, e5, _⟩ := R1.isM m'; rw [z] at e5; cases e5
        | some j' =>
          rw [wS hy] at m'
          have := R2.dj j j' a m m'
          subst this
          obtain ⟨o, h1, h2, _⟩ := argAt_some hx
          obtain ⟨o', h1', h2', _⟩ := argAt_some hy
          rw [h1] at h1'
          cases h1'
          rw [h2] at h2'
          exact Option.some.inj h2'
    · cases hx : argAt i os with
      | none => rw [wN hx]; exact R1.nd i
      | some j => rw [wS hx]; exact R2.nd j
    · cases hx : argAt i os with
      | none =>
        rw [wN hx] at m
        intro p
        rcases E2.newP a p with z | z | z
        · exact R1.np i a m z
        · obtain ⟨u, e5, _⟩ := R1.isM m; rw [z] at e5; cases e5
        · exact keepN hx a m z
      | some j => rw [wS hx] at m; exact R2.np j a m
  have new : ∀ a, a ∈ F → H a = none := fun a m => back_none E (fr2 a m).2.1
  have Zc : ∀ c, Zt Tc Fc c → Zt (Ts os ++ alS os) Fs c ∨ H c = none := fun c ⟨j, _, m⟩ => by
    obtain ⟨o, v, d, F, h1, h2, h3, h4, h5, ma⟩ := hat j c m
    have k1 := h5.2
    cases ha : o.al with
    | some i =>
      rw [ha] at k1
      obtain ⟨rfl, _⟩ := k1
      have hi := (argAt_some (argAt_of nd h1 ha)).choose_spec.2.2
      exact (gr i c ma).imp (fun z => ⟨i, List.mem_append_right _ hi, z⟩) id
    | none => exact .inr (fr c (temps_at h1 ha h4 c ma))
  refine q v H2 P2 F Fw Rw ow nf (fun a m => ⟨(fr2 a m).1, new a m, fun i z => ?_⟩) ((E.more Zt.left (R.zm _) (R.zp _)).trans E2 Zc) (fun i hi => ?_) fun i a m => ?_
  · cases hx : argAt i os with
    | none => rw [wN hx] at z; obtain ⟨u, e5, _⟩ := R1.isM z; rw [(fr2 a m).2.1] at e5; cases e5
    | some j => rw [wS hx] at z; exact (fr2 a m).2.2 j z
  · rw [List.mem_append, not_or] at hi
    have hx : argAt i os = none := by
      cases e : argAt i os with
      | none => rfl
      | some j => exact absurd (argAt_some e).choose_spec.2.2 hi.2
    obtain ⟨a1, a2⟩ := st i hi.1
    exact ⟨(wN hx).trans a1, by rw [wb_get i os ds' ρ1 nd ld, hx]; exact a2⟩
  · cases hx : argAt i os with
    | none => rw [wN hx] at m; exact gr i a m
    | some j =>
      rw [wS hx] at m
      rcases gr2 j a m with z | z
      · rw [(slot hx).1] at z; exact gr i a z
      · exact .inr (back_none E z)
variable {f : Addr} {fd : FuncData} {ps : List Str} {x : Str} {p pos : Pos} {e : Expr} {es : List Expr}
theorem ve_call {lv : Nat} {os : List Od} {Tc κp : List Nat} {fn : Sem0} (F : FnOk X.prog X.w X.K X.mg X.base CX0 lv f fd ps (spD (gd X) Tc κp k fn)) (hr : Room lv X.A) (hg : Gl X x) (hm : X.mg x = some (.ref f)) (hk : PySem.W.keepIn X.K (.ref f) = true) (hb : Binds X.K fd ps [])
    (ha : VA X κ (e :: es) os) (hκ : os.map (·.k) = κp) (nd : (alS os).Nodup) (hdb : (x == ("__debug__" : Str)) = false := by decide) (he : starEach (e :: es) X.env = (false, eval e X.env) :: starEach es X.env := by rfl) (hpl : (backTo pos (starEach es X.env)).any (·.1) = false := by rfl) :
    PE X (.Call (.Name x p) (e :: es) [] pos) (tV (gd X) (Ts os ++ alS os) κ k (callF os fn)) :=
  (pe_call F hr hg hm hk hb .nil pass0 ha.pa hdb he hpl).imp fun σ H Q h => by
    have := call_at (Tc := Tc) ha.wf hκ nd h
    show (argsT (gd X) κ os) σ H fun vs H1 => spD (gd X) Tc κp k fn (vs ++ []) H1 Q _
    simp only [List.append_nil]
    exact this
end
end VS

set_option Elab.async false
set_option linter.all false
set_option maxRecDepth 100000
/-! List comprehensions over data. -/
namespace VS
open PySem PySem.Spec PyProof.Rows L2

def wipeD : List Nat → List D → List D
  | [], ρ => ρ
  | v :: vs, ρ => (wipeD vs ρ).set v .und
/-- the slots vs as they were in ρ0 -/
def unw : List Nat → List D → List D → List D
  | [], _, ρ => ρ
  | v :: vs, ρ0, ρ => (unw vs ρ0 ρ).set v (ρ0.getD v .und)
abbrev Cls := List D → Option (List D × List D)
def clL (vs : List Nat) (m : Tgt) (t : Tst) (b : Cls) : List D → Cls
  | [], ρ => some ([], ρ)
  | x :: xs, ρ => (m x ρ).bind fun ρ1 => (t ρ1).bind fun p => if p.1 = true then (b p.2).bind fun q => (clL vs m t b xs (wipeD vs q.2)).bind fun r => some (q.1 ++ r.1, r.2)
    else clL vs m t b xs (wipeD vs p.2)
def clF (src : Cls) (vs : List Nat) (m : Tgt) (t : Tst) (b : Cls) : Cls := fun ρ => (src ρ).bind fun p => (clL vs m t b p.1 (wipeD vs p.2)).bind fun r => some (r.1, unw vs p.2 r.2)
def oneF (e : Sem0) : Cls := fun ρ => (e ρ).bind fun p => some ([p.1], p.2)
def lcF (c : Cls) : Sem0 := fun ρ => (c ρ).bind fun p => if p.1.length ≤ sizeLine then some (.lst p.1, p.2) else none
def yesF : Tst := fun ρ => some (true, ρ)
section
variable {G : Wd} {P P' P1 : Addr → Prop} {H H' H1 : Hp} {σ : L2.St} {ρ ρ' ρ0 : List D} {κ T U : List Nat} {Fs Fs' Fs1 : Nat → List Addr} {k : Nat} {vs : List Nat}
theorem wipeD_length : ∀ (vs : List Nat) (ρ : List D), (wipeD vs ρ).length = ρ.length
  | [], _ => rfl
  | v :: vs, ρ => by unfold wipeD; rw [List.length_set, wipeD_length vs]
theorem unw_length : ∀ (vs : List Nat) (ρ0 ρ : List D), (unw vs ρ0 ρ).length = ρ.length
  | [], _, _ => rfl
  | v :: vs, ρ0, ρ => by unfold unw; rw [List.length_set, unw_length vs]
theorem wipeD_out {i : Nat} : ∀ {vs : List Nat} {ρ : List D}, i ∉ vs → (wipeD vs ρ)[i]? = ρ[i]?
  | [], _, _ => rfl
  | v :: vs, ρ, h => by
    simp only [List.mem_cons, not_or] at h
    unfold wipeD
    rw [List.getElem?_set_ne (Ne.symm h.1), wipeD_out h.2]
theorem wipeD_in {i : Nat} : ∀ {vs : List Nat} {ρ : List D} {d : D}, i ∈ vs → (wipeD vs ρ)[i]? = some d → d = .und
  | v :: vs, ρ, d, h, e => by
    unfold wipeD at e
    by_cases q : v = i
    · subst q
      by_cases c : v < (wipeD vs ρ).length
      · rw [List.getElem?_set_self c] at e; cases e; rfl
      · rw [List.getElem?_eq_none (by simpa using c)] at e; cases e
    · rw [List.getElem?_set_ne q] at e
      rcases List.mem_cons.mp h with z | z
      · exact absurd z.symm q
      · exact wipeD_in z e
theorem unw_out {i : Nat} : ∀ {vs : List Nat} {ρ0 ρ : List D}, i ∉ vs → (unw vs ρ0 ρ)[i]? = ρ[i]?
  | [], _, _, _ => rfl
  | v :: vs, ρ0, ρ, h => by
    simp only [List.mem_cons, not_or] at h
    unfold unw
    rw [List.getElem?_set_ne (Ne.symm h.1), unw_out h.2]
theorem unw_in {i : Nat} : ∀ {vs : List Nat} {ρ0 ρ : List D} {d : D}, i ∈ vs → (unw vs ρ0 ρ)[i]? = some d → d = ρ0.getD i .und
  | v :: vs, ρ0, ρ, d, h, e => by
    unfold unw at e
    by_cases q : v = i
    · subst q
      by_cases c : v < (unw vs ρ0 ρ).length
      · rw [List.getElem?_set_self c] at e; cases e; rfl
      · rw [List.getElem?_eq_none (by simpa using c)] at e; cases e
    · rw [List.getElem?_set_ne q] at e
      rcases List.mem_cons.mp h with z | z
      · exact absurd z.symm q
      · exact unw_in z e
theorem wipe_out' {i : Nat} : ∀ {vs : List Nat} {σ : L2.St}, i ∉ vs → (wipe σ vs)[i]? = σ[i]?
  | [], _, _ => rfl
  | v :: vs, σ, h => by
    simp only [List.mem_cons, not_or] at h
    unfold wipe
    rw [List.getElem?_set_ne (Ne.symm h.1), wipe_out' h.2]
theorem wipe_in' {i : Nat} : ∀ {vs : List Nat} {σ : L2.St}, i ∈ vs → i < σ.length → (wipe σ vs)[i]? = some none
  | v :: vs, σ, h, hl => by
    unfold wipe
    by_cases q : v = i
    · subst q
      rw [List.getElem?_set_self (by rw [wipe_length]; exact hl)]
    · rw [List.getElem?_set_ne q]
      rcases List.mem_cons.mp h with z | z
      · exact absurd z.symm q
      · exact wipe_in' z hl
theorem wipe_eq {σ σ' : L2.St} (hl : σ'.length = σ.length) (h : ∀ i, i < σ.length → i ∉ vs → σ'[i]? = σ[i]?) : wipe σ' vs = wipe σ vs := by
  refine List.ext_getElem? fun i => ?_
  by_cases hi : i < σ.length
  · by_cases hv : i ∈ vs
    · rw [wipe_in' hv hi, wipe_in' hv (by omega)]
    · rw [wipe_out' hv, wipe_out' hv, h i hi hv]
  · rw [List.getElem?_eq_none (by rw [wipe_length]; omega), List.getElem?_eq_none (by rw [wipe_length]; omega)]
/-- a slot of kind 0 owns nothing -/
theorem Rep.zero (R : Rep G P H σ ρ κ Fs) {i : Nat} (h : κ.getD i 0 = 0) : Fs i = [] := by
  cases hm : Fs i with
  | nil => rfl
  | cons a r =>
    obtain ⟨d, v, h1, h2, h3, h4⟩ := R.some (i := i) (a := a) (by rw [hm]; exact List.mem_cons_self)
    rw [h] at h4
    rw [h4.2] at hm
    cases hm
theorem Rep.wipe (R : Rep G P H σ ρ κ Fs) (h : ∀ i, i ∈ vs → κ.getD i 0 = 0) : Rep G P H (wipe σ vs) (wipeD vs ρ) κ Fs := by
  refine ⟨by rw [wipe_length, wipeD_length]; exact R.len, by rw [wipeD_length]; exact R.lenk, fun i d hi hu => ?_, fun i hi => ?_, R.dj, R.nd, R.np, R.pt⟩
  · have hv : i ∉ vs := fun z => hu (wipeD_in z hi)
    rw [wipeD_out hv] at hi
    obtain ⟨v, a, b⟩ := R.at_ i d hi hu
    exact ⟨v, by rw [wipe_out' hv]; exact a, b⟩
  · by_cases hv : i ∈ vs
    · exact R.zero (h i hv)
    · exact R.un i fun d hd => hi d (by rw [wipeD_out hv]; exact hd)
/-- the comprehension's own slots back -/
theorem Rep.unwipe (R0 : Rep G P H σ ρ0 κ Fs) (R : Rep G P' H' (L2.wipe σ vs) ρ' κ Fs') (L : Late G P H P' H') (h : ∀ i, i ∈ vs → κ.getD i 0 = 0) : Rep G P' H' σ (unw vs ρ0 ρ') κ Fs' := by
  refine ⟨?_, by rw [unw_length]; exact R.lenk, fun i d hi hu => ?_, fun i hi => ?_, R.dj, R.nd, R.np, R.pt⟩
  · rw [unw_length, ← R.len, wipe_length]
  · by_cases hv : i ∈ vs
    · have e := unw_in hv hi
      cases hr : ρ0[i]? with
      | none =>
        rw [List.getD_eq_getElem?_getD, hr] at e
        exact absurd e hu
      | some d' =>
        rw [List.getD_eq_getElem?_getD, hr] at e
        subst e
        obtain ⟨v, a, b⟩ := R0.at_ i _ hr hu
        rw [h i hv] at b ⊢
        exact ⟨v, a, L _ _ b.1, R.zero (h i hv)⟩
    · rw [unw_out hv] at hi
      obtain ⟨v, a, b⟩ := R.at_ i d hi hu
      exact ⟨v, by rw [← wipe_out' hv (σ := σ)]; exact a, b⟩
  · by_cases hv : i ∈ vs
    · exact R.zero (h i hv)
    · exact R.un i fun d hd => hi d (by rw [unw_out hv]; exact hd)
/-- one more at the end of an owned list -/
theorem own_push {a : Addr} {ds : List D} {F Fy : List Addr} {y : V} {d : D} (o : OwnK G P H (k + 1) (.ref a) (.lst ds) F) (nd : F.Nodup) (np : ¬ P a) (oy : OwnK G P H k y d Fy) (ny : Fy.Nodup) (dj : ∀ c, c ∈ F → c ∉ Fy) :
    ∃ acc F', H a = some (.lst acc) ∧ acc.length = ds.length ∧ OwnK G P (upd H a (.lst (acc ++ [y]))) (k + 1) (.ref a) (.lst (ds ++ [d])) F' ∧ F'.Nodup ∧ (∀ c, c ∈ F' → c ∈ F ∨ c ∈ Fy) ∧ a ∈ F ∧ Ext (fun c => c = a) P H P (upd H a (.lst (acc ++ [y]))) := by
  obtain ⟨b, acc, Gs, e, hb, t, rfl⟩ := o
  cases e
  have E : Ext (fun c => c = a) P H P (upd H a (.lst (acc ++ [y]))) := by
    refine ⟨fun _ h => h, fun _ h => .inl h, fun c o h n => by rw [upd_ne n]; exact h, fun c h => ?_, fun c z => ?_, fun c z => ?_, fun pt c p => ?_⟩
    · by_cases q : c = a
      · rw [q, upd_same]; simp
      · rw [upd_ne q]; exact h
    · subst z; exact ⟨_, hb, trivial⟩
    · subst z; exact np
    · have : c ≠ a := fun z => np (z ▸ p)
      rw [upd_ne this]; exact pt c p
  obtain ⟨n1, n2⟩ := List.nodup_cons.mp nd
  have t2 : Tri (OwnK G P (upd H a (.lst (acc ++ [y]))) k) acc ds Gs := t.imp fun v d F m r => r.ext E fun c mc z => by subst z; exact n1 (mem_flat m mc)
  have y2 : OwnK G P (upd H a (.lst (acc ++ [y]))) k y d Fy := oy.ext E fun c mc z => by subst z; exact dj c List.mem_cons_self mc
  refine ⟨acc, a :: (Gs ++ [Fy]).flatten, hb, t.length.1, ⟨a, acc ++ [y], Gs ++ [Fy], rfl, upd_same, t2.append (.cons y2 .nil), rfl⟩, ?_, ?_, List.mem_cons_self, E⟩
  · rw [List.flatten_append, List.flatten_cons, List.flatten_nil, List.append_nil]
    refine List.nodup_cons.mpr ⟨?_, List.nodup_append.mpr ⟨n2, ny, fun x mx z mz e => ?_⟩⟩
    · rw [List.mem_append, not_or]
      exact ⟨n1, dj a List.mem_cons_self⟩
    · subst e; exact dj x (List.mem_cons_of_mem _ mx) mz
  · intro c m
    rw [List.flatten_append, List.flatten_cons, List.flatten_nil, List.append_nil] at m
    rcases List.mem_cons.mp m with m | m
    · exact .inl (m ▸ List.mem_cons_self)
    · rcases List.mem_append.mp m with m | m
      · exact .inl (List.mem_cons_of_mem _ m)
      · exact .inr m
/-- a step of the slots W, with the owned things F that no slot holds -/
structure StpF (W : List Nat) (F : List Addr) (P : Addr → Prop) (H : Hp) (Fs : Nat → List Addr) (ρ : List D) (P' : Addr → Prop) (H' : Hp) (Fs' : Nat → List Addr) (ρ' : List D) : Prop where
  ext : Ext (fun c => Zt W Fs c ∨ c ∈ F) P H P' H'
  st : ∀ i, i ∉ W → Fs' i = Fs i ∧ ρ'[i]? = ρ[i]?
  gr : ∀ i a, a ∈ Fs' i → a ∈ Fs i ∨ H a = none
theorem StpF.trans {W : List Nat} {F F1 : List Addr} {ρ1 : List D} (a : StpF W F P H Fs ρ P1 H1 Fs1 ρ1) (b : StpF W F1 P1 H1 Fs1 ρ1 P' H' Fs' ρ') (h : ∀ c, c ∈ F1 → c ∈ F ∨ H c = none) : StpF W F P H Fs ρ P' H' Fs' ρ' :=
  ⟨a.ext.trans b.ext fun c z => by
    rcases z with ⟨i, hi, m⟩ | z
    · rcases a.gr i c m with m | m
      · exact .inl (.inl ⟨i, hi, m⟩)
      · exact .inr m
    · rcases h c z with z | z
      · exact .inl (.inr z)
      · exact .inr z, fun i hi => ⟨(b.st i hi).1.trans (a.st i hi).1, (b.st i hi).2.trans (a.st i hi).2⟩, fun i c m => by
    rcases b.gr i c m with m | m
    · exact a.gr i c m
    · exact .inr (back_none a.ext m)⟩
theorem StpF.of {W : List Nat} {F : List Addr} (R : Rep G P H σ ρ κ Fs) (hF : ∀ a ∈ F, (∃ u, H a = some u ∧ IsM u) ∧ ¬ P a) (h : ∀ i, i ∈ T → i ∈ W) (a : Stp T P H Fs ρ P' H' Fs' ρ') : StpF W F P H Fs ρ P' H' Fs' ρ' :=
  ⟨a.ext.more (fun _ ⟨i, hi, m⟩ => .inl ⟨i, h i hi, m⟩) (fun c z => z.elim (R.zm _ c) fun z => (hF c z).1) (fun c z => z.elim (R.zp _ c) fun z => (hF c z).2), fun i hi => a.st i fun z => hi (h i z), a.gr⟩
theorem StpF.mono {W W' : List Nat} {F F' : List Addr} (R : Rep G P H σ ρ κ Fs) (hF : ∀ a ∈ F', (∃ u, H a = some u ∧ IsM u) ∧ ¬ P a) (h : ∀ i, i ∈ W → i ∈ W') (hf : ∀ c, c ∈ F → c ∈ F') (a : StpF W F P H Fs ρ P' H' Fs' ρ') : StpF W' F' P H Fs ρ P' H' Fs' ρ' :=
  ⟨a.ext.more (fun c z => z.elim (fun ⟨i, hi, m⟩ => .inl ⟨i, h i hi, m⟩) fun z => .inr (hf c z)) (fun c z => z.elim (R.zm _ c) fun z => (hF c z).1) (fun c z => z.elim (R.zp _ c) fun z => (hF c z).2), fun i hi => a.st i fun z => hi (h i z), a.gr⟩
theorem StpF.refl {W : List Nat} {F : List Addr} (R : Rep G P H σ ρ κ Fs) (hF : ∀ a ∈ F, (∃ u, H a = some u ∧ IsM u) ∧ ¬ P a) : StpF W F P H Fs ρ P H Fs ρ :=
  ⟨Ext.refl (fun c z => z.elim (R.zm _ c) fun z => (hF c z).1) (fun c z => z.elim (R.zp _ c) fun z => (hF c z).2), fun _ _ => ⟨rfl, rfl⟩, fun _ _ m => .inl m⟩
/-- what a clause's turn makes of the list at l -/
def BodyOk (G : Wd) (κ W : List Nat) (k : Nat) (tb : Addr → L2.St → Hp → (Hp → Prop) → Prop) (b : Cls) : Prop :=
  ∀ (l : Addr) (σ : L2.St) (P : Addr → Prop) (H : Hp) (ρ ρ' : List D) (Fs : Nat → List Addr) (ds rs : List D) (F : List Addr) (Nx : Hp → Prop), Rep G P H σ ρ κ Fs → OwnK G P H (k + 1) (.ref l) (.lst ds) F → F.Nodup → (∀ a ∈ F, ¬ P a ∧ ∀ i, a ∉ Fs i) →
    b ρ = some (rs, ρ') → ds.length + rs.length ≤ sizeLine →
    (∀ H' P' Fs' F', Rep G P' H' σ ρ' κ Fs' → OwnK G P' H' (k + 1) (.ref l) (.lst (ds ++ rs)) F' → F'.Nodup → (∀ a ∈ F', ¬ P' a ∧ ∀ i, a ∉ Fs' i) → (∀ a ∈ F', a ∈ F ∨ H a = none) → StpF W F P H Fs ρ P' H' Fs' ρ' → Nx H') → tb l σ H Nx
/-- an element -/
theorem one_ok {W : List Nat} {e : Sem0} (h : ∀ i, i ∈ T → i ∈ W) : BodyOk G κ W k (fun l σ H Nx => tV G T κ k e σ H fun y H4 => ∃ acc, H4 l = some (.lst acc) ∧ acc.length < sizeLine ∧ Nx (upd H4 l (.lst (acc ++ [y])))) (oneF e) := by
  intro l σ P H ρ ρ' Fs ds rs F Nx R o nd fr e1 hz q
  unfold oneF at e1
  obtain ⟨⟨d, ρ1⟩, e2, e1⟩ := Option.bind_eq_some_iff.mp e1
  cases e1
  refine ⟨P, ρ, Fs, d, _, R, e2, fun y H4 P4 Fy Fs4 R4 oy ny fy E st gr => ?_⟩
  have s : Stp T P H Fs ρ P4 H4 Fs4 ρ1 := ⟨E, st, gr⟩
  obtain ⟨o4, f4⟩ := fresh_step R o fr s
  have hlF : l ∈ F := by
    obtain ⟨_, _, _, e, _, _, rfl⟩ := o4
    cases e
    exact List.mem_cons_self
  have djF : ∀ c, c ∈ F → c ∉ Fy := fun c m z => by
    obtain ⟨u, e5, _⟩ := o.isM c m
    rw [(fy c z).2.1] at e5; cases e5
  obtain ⟨acc, F', a1, a2, a3, a4, a5, a6, a7⟩ := own_push o4 nd (f4 l hlF).1 oy ny djF
  refine ⟨acc, a1, ?_, ?_⟩
  · rw [a2]
    simp only [List.length_cons, List.length_nil] at hz
    omega
  · have R5 := R4.ext a7 fun i a m z => by subst z; exact (f4 a hlF).2 i m
    refine q _ P4 Fs4 F' R5 a3 a4 (fun a m => ?_) (fun a m => ?_) ?_
    · rcases a5 a m with z | z
      · exact f4 a z
      · exact ⟨(fy a z).1, (fy a z).2.2⟩
    · rcases a5 a m with z | z
      · exact .inl z
      · exact .inr (fy a z).2.1
    · have s1 : StpF W F P H Fs ρ P4 H4 Fs4 ρ1 := StpF.of R (fun a m => ⟨o.isM a m, (fr a m).1⟩) h s
      refine s1.trans (F1 := F) ⟨a7.more (fun c z => .inr (by subst z; exact hlF)) (fun c z => z.elim (R4.zm _ c) fun z => o4.isM c z) (fun c z => z.elim (R4.zp _ c) fun z => (f4 c z).1), fun _ _ => ⟨rfl, rfl⟩, fun _ _ m => .inl m⟩ fun c z => .inl z
/-- the turns of a clause -/
theorem turns_ok {W : List Nat} {vs : List Nat} {J : It} {xs : List D} {m : Tgt} {t : Tst} {b : Cls} {tb : Addr → L2.St → Hp → (Hp → Prop) → Prop} {Φ : List Nat} (hv : ∀ i, i ∈ vs → κ.getD i 0 = 0) (hΦ : ∀ i, i < κ.length → i ∈ vs ∨ i ∈ Φ) (hT : ∀ i, i ∈ T → i ∈ W) (hvW : ∀ i, i ∈ vs → i ∉ W)
    (B : BodyOk G κ W k tb b) {l : Addr} {σ : L2.St} {ds rs : List D} {F : List Addr} {ρ1 ρF : List D} {Fin : Hp → Prop}
    (Wk : WalkD G J xs P1 H1) (R : Rep G P1 H1 σ ρ1 κ Fs1) (o : OwnK G P1 H1 (k + 1) (.ref l) (.lst ds) F) (nd : F.Nodup) (fr : ∀ a ∈ F, ¬ P1 a ∧ ∀ i, a ∉ Fs1 i) (e : clL vs m t b xs (wipeD vs ρ1) = some (rs, ρF)) (hz : ds.length + rs.length ≤ sizeLine)
    (q : ∀ H' P' Fs' F', Rep G P' H' σ (unw vs ρ1 ρF) κ Fs' → OwnK G P' H' (k + 1) (.ref l) (.lst (ds ++ rs)) F' → F'.Nodup → (∀ a ∈ F', ¬ P' a ∧ ∀ i, a ∉ Fs' i) → (∀ a ∈ F', a ∈ F ∨ H1 a = none) → StpF W F P1 H1 Fs1 ρ1 P' H' Fs' (unw vs ρ1 ρF) → Fin H') :
    ∃ Wv : Nat → Nat → Hp → Prop, (∃ m, Wv 0 m H1) ∧ ∀ i n H, Wv i n H →
      (J.stop i H ∧ Fin H) ∨ (J.go i H ∧ ∃ Nx : Hp → Prop, (∀ H', Nx H' → ∃ n', n' < n ∧ Wv (i + 1) n' H') ∧ ∀ x H', J.yld i H x H' → tG G Φ κ κ m x (L2.wipe σ vs) H' fun σ2 H2 => L2.wipe σ2 vs = L2.wipe σ vs ∧ tVT G T κ t σ2 H2 fun b H3 =>
        if b = true then tb l σ2 H3 Nx else Nx H3) := by
  let Inv : List D → Hp → Prop := fun ys H => ∃ P ρ Fs ds' rs' F', Rep G P H (L2.wipe σ vs) ρ κ Fs ∧ (∀ i, i ∈ vs → ∀ d, ρ[i]? = some d → d = .und) ∧ OwnK G P H (k + 1) (.ref l) (.lst ds') F' ∧ F'.Nodup ∧ (∀ a ∈ F', ¬ P a ∧ ∀ i, a ∉ Fs i) ∧ (∀ a ∈ F', a ∈ F ∨ H1 a = none) ∧
    StpF W F P1 H1 Fs1 (wipeD vs ρ1) P H Fs ρ ∧ clL vs m t b ys ρ = some (rs', ρF) ∧ ds' ++ rs' = ds ++ rs
  have Rw := R.wipe hv
  refine ⟨fun i n H => i + n = xs.length ∧ Inv (xs.drop i) H, ⟨xs.length, Nat.zero_add _, P1, _, Fs1, ds, rs, F, Rw, fun i hi d h => wipeD_in hi h, o, nd, fr, fun a m => .inl m, StpF.refl Rw (fun a m => ⟨o.isM a m, (fr a m).1⟩), e, rfl⟩, ?_⟩
  rintro i n H ⟨hl, P2, ρ2, Fs2, ds2, rs2, F2, R2, u2, o2, nd2, fr2, f2, s2, e2, ed⟩
  have L2' : Late G P1 H1 P2 H := s2.ext.late
  cases hd : xs.drop i with
  | nil =>
    have hi : i = xs.length := by
      have := List.drop_eq_nil_iff.mp hd
      omega
    subst hi
    rw [hd] at e2
    cases e2
    rw [List.append_nil] at ed
    refine .inl ⟨Wk.stop P2 H L2', q H P2 Fs2 F2 (R.unwipe R2 L2' hv) (ed ▸ o2) nd2 fr2 f2 ⟨s2.ext, fun i hi => ⟨(s2.st i hi).1, ?_⟩, s2.gr⟩⟩
    by_cases z : i ∈ vs
    · have hlen : (unw vs ρ1 ρF).length = ρ1.length := by
        rw [unw_length, ← R2.lenk, R.lenk]
      cases hx : (unw vs ρ1 ρF)[i]? with
      | none => rw [List.getElem?_eq_none_iff, hlen] at hx; rw [List.getElem?_eq_none hx]
      | some d =>
        have := unw_in z hx
        obtain ⟨h, _⟩ := List.getElem?_eq_some_iff.mp hx
        rw [this, List.getD_eq_getElem?_getD, List.getElem?_eq_getElem (by omega)]
        rfl
    · rw [unw_out z, (s2.st i hi).2, wipeD_out z]
  | cons x ys =>
    have hi : i < xs.length := by
      have := congrArg List.length hd
      rw [List.length_drop, List.length_cons] at this
      omega
    have hx : xs[i]? = some x := by
      have := congrArg List.head? hd
      rw [List.head?_drop] at this
      exact this
    have hys : xs.drop (i + 1) = ys := by
      rw [← List.drop_drop, hd]
      rfl
    rw [hd] at e2
    unfold clL at e2
    obtain ⟨ρ3, e3, e2⟩ := Option.bind_eq_some_iff.mp e2
    obtain ⟨⟨c, ρ4⟩, e4, e2⟩ := Option.bind_eq_some_iff.mp e2
    refine .inr ⟨Wk.go P2 H i L2' hi, Inv ys, fun H' z => ⟨n - 1, by omega, by omega, by rw [hys]; exact z⟩, fun v H' hy => ?_⟩
    obtain ⟨kp, dn⟩ := Wk.yld P2 H i v H' x L2' hx hy
    have E2 : Ext (fun _ => False) P2 H P2 H' := Ext.new kp
    have R3 := R2.ext E2 fun _ _ _ z => z
    have s3 : StpF W F P1 H1 Fs1 (wipeD vs ρ1) P2 H' Fs2 ρ2 := ⟨s2.ext.trans E2 fun _ z => z.elim, s2.st, s2.gr⟩
    have o3 := o2.ext E2 fun _ _ z => z
    refine ⟨P2, ρ2, Fs2, x, ρ3, R3, dn, e3, fun σ2 Fs3 R4 sm sub => ?_⟩
    have hw : L2.wipe σ2 vs = L2.wipe σ vs := by
      have l1 : σ2.length = (L2.wipe σ vs).length := by rw [R4.len, ← R4.lenk, R2.len, ← R2.lenk]
      have : L2.wipe σ2 vs = L2.wipe (L2.wipe σ vs) vs := wipe_eq l1 fun j hj hnv => by
        have hjk : j < κ.length := by rw [R2.len, ← R2.lenk] at hj; exact hj
        exact (sm j ((hΦ j hjk).resolve_left hnv)).1
      rw [this]
      exact wipe_eq (wipe_length _ _) fun j hj hnv => wipe_out' hnv
    refine ⟨hw, P2, ρ3, Fs3, c, ρ4, R4, e4, fun H5 P5 Fs5 R5 Ex st gr => ?_⟩
    have t5 : Stp T P2 H' Fs3 ρ3 P5 H5 Fs5 ρ4 := ⟨Ex, st, gr⟩
    -- from the turn's start: what the target has changed are own slots
    have sA : StpF W F2 P2 H' Fs3 ρ3 P5 H5 Fs5 ρ4 := StpF.of R4 (fun a m => ⟨o3.isM a m, (fr2 a m).1⟩) hT t5
    have fr3 : ∀ a ∈ F2, ¬ P2 a ∧ ∀ i, a ∉ Fs3 i := fun a m => ⟨(fr2 a m).1, fun i z => (fr2 a m).2 i (sub i a z)⟩
    obtain ⟨o5, fr5⟩ := fresh_step R4 o3 fr3 t5
    -- the slots behind the turn, the own ones forgotten
    have close : ∀ {P6 H6 ρ6 Fs6 F6 ds6 rs6}, Rep G P6 H6 σ2 ρ6 κ Fs6 → OwnK G P6 H6 (k + 1) (.ref l) (.lst ds6) F6 → F6.Nodup → (∀ a ∈ F6, ¬ P6 a ∧ ∀ i, a ∉ Fs6 i) → (∀ a ∈ F6, a ∈ F2 ∨ H' a = none) → StpF W F2 P2 H' Fs3 ρ3 P6 H6 Fs6 ρ6 → clL vs m t b ys (wipeD vs ρ6) = some (rs6, ρF) → ds6 ++ rs6 = ds ++ rs → Inv ys H6 := by
      intro P6 H6 ρ6 Fs6 F6 ds6 rs6 R6 o6 nd6 fr6 f6 s6 e6 ed6
      have R7 := R6.wipe hv
      rw [hw] at R7
      have gr6 : ∀ i a, a ∈ Fs6 i → a ∈ Fs2 i ∨ H' a = none := fun i a m => (s6.gr i a m).imp (sub i a) id
      refine ⟨P6, _, Fs6, ds6, rs6, F6, R7, fun i hi d h => wipeD_in hi h, o6, nd6, fr6, fun a m => ?_, ⟨s3.ext.trans s6.ext fun c z => ?_, fun i hi => ?_, fun i a m => ?_⟩, e6, ed6⟩
      · rcases f6 a m with z | z
        · exact f2 a z
        · exact .inr (back_none s3.ext z)
      · rcases z with ⟨i, hi, mm⟩ | z
        · rcases s3.gr i c (sub i c mm) with y | y
          · exact .inl (.inl ⟨i, hi, y⟩)
          · exact .inr y
        · rcases f2 c z with y | y
          · exact .inl (.inr y)
          · exact .inr y
      · by_cases hiv : i ∈ vs
        · refine ⟨(R6.zero (hv i hiv)).trans (Rw.zero (hv i hiv)).symm, ?_⟩
          have l6 : (wipeD vs ρ6).length = (wipeD vs ρ1).length := by rw [wipeD_length, wipeD_length, ← R6.lenk, R.lenk]
          cases hx6 : (wipeD vs ρ6)[i]? with
          | none => rw [List.getElem?_eq_none_iff, l6] at hx6; rw [List.getElem?_eq_none hx6]
          | some d =>
            rw [wipeD_in hiv hx6]
            obtain ⟨h, _⟩ := List.getElem?_eq_some_iff.mp hx6
            have h1 : i < (wipeD vs ρ1).length := by omega
            rw [List.getElem?_eq_getElem h1, wipeD_in hiv (List.getElem?_eq_getElem h1)]
        · obtain ⟨a1, a2⟩ := s6.st i hi
          obtain ⟨b1, b2⟩ := s3.st i hi
          by_cases h : i < κ.length
          · obtain ⟨_, _, c1, c2⟩ := sm i ((hΦ i h).resolve_left hiv)
            exact ⟨a1.trans (c2.trans b1), by rw [wipeD_out hiv, a2, c1, b2]⟩
          · have z6 := R6.lenk
            have z2 := Rw.lenk
            refine ⟨(R6.zero (by rw [List.getD_eq_getElem?_getD, List.getElem?_eq_none (by omega)]; rfl)).trans (Rw.zero (by rw [List.getD_eq_getElem?_getD, List.getElem?_eq_none (by omega)]; rfl)).symm, ?_⟩
            rw [List.getElem?_eq_none (by rw [wipeD_length]; omega), List.getElem?_eq_none (by omega)]
      · rcases gr6 i a m with z | z
        · exact s3.gr i a z
        · exact .inr (back_none s3.ext z)
    cases c with
    | false =>
      exact close R5 o5 nd2 fr5 (fun a m => .inl m) sA e2 ed
    | true =>
      obtain ⟨⟨rs5, ρ5⟩, e5, e2⟩ := Option.bind_eq_some_iff.mp (show (b ρ4).bind _ = _ from e2)
      obtain ⟨⟨rs6, ρ6⟩, e6, e2⟩ := Option.bind_eq_some_iff.mp e2
      injection e2 with e2
      injection e2 with e7 e8
      subst e8
      subst e7
      refine B l σ2 P5 H5 ρ4 ρ5 Fs5 ds2 rs5 F2 (Inv ys) R5 o5 nd2 fr5 e5 ?_ fun H6 P6 Fs6 F6 R6 o6 nd6 fr6 f6 s6 => ?_
      · have := congrArg List.length ed
        simp only [List.length_append] at this
        omega
      · refine close R6 o6 nd6 fr6 (fun a m => (f6 a m).imp id (back_none Ex)) (sA.trans s6 fun c m => .inl m) e6 (by rw [List.append_assoc]; exact ed)
/-- a further clause -/
theorem inner_ok {T0 T1 W : List Nat} {vs : List Nat} {src : Cls} {m : Tgt} {t : Tst} {b : Cls} {tb : Addr → L2.St → Hp → (Hp → Prop) → Prop} {Φ : List Nat} (hv : ∀ i, i ∈ vs → κ.getD i 0 = 0) (hΦ : ∀ i, i < κ.length → i ∈ vs ∨ i ∈ Φ) (h0 : ∀ i, i ∈ T0 → i ∈ W) (h1 : ∀ i, i ∈ T1 → i ∈ W) (hvW : ∀ i, i ∈ vs → i ∉ W)
    (B : BodyOk G κ W k tb b) : BodyOk G κ W k (fun l σ2 H3 Nx => tVI G T0 κ src σ2 H3 fun J1 H4 => ∃ W1 : Nat → Nat → Hp → Prop, (∃ m, W1 0 m H4) ∧ ∀ j k H, W1 j k H →
      (J1.stop j H ∧ Nx H) ∨ (J1.go j H ∧ ∃ Nx1 : Hp → Prop, (∀ H', Nx1 H' → ∃ k', k' < k ∧ W1 (j + 1) k' H') ∧ ∀ x H', J1.yld j H x H' → tG G Φ κ κ m x (L2.wipe σ2 vs) H' fun σ3 H5 => L2.wipe σ3 vs = L2.wipe σ2 vs ∧ tVT G T1 κ t σ3 H5 fun b H6 =>
        if b = true then tb l σ3 H6 Nx1 else Nx1 H6)) (clF src vs m t b) := by
  intro l σ P H ρ ρ' Fs ds rs F Nx R o nd fr e hz q
  unfold clF at e
  obtain ⟨⟨xs, ρ1⟩, e1, e⟩ := Option.bind_eq_some_iff.mp e
  obtain ⟨⟨rs1, ρF⟩, e2, e⟩ := Option.bind_eq_some_iff.mp e
  cases e
  refine ⟨P, ρ, Fs, xs, ρ1, R, e1, fun J H1 P1 Fs1 R1 Wk E st gr => ?_⟩
  have s1 : Stp T0 P H Fs ρ P1 H1 Fs1 ρ1 := ⟨E, st, gr⟩
  obtain ⟨o1, fr1⟩ := fresh_step R o fr s1
  have sA : StpF W F P H Fs ρ P1 H1 Fs1 ρ1 := StpF.of R (fun a m => ⟨o.isM a m, (fr a m).1⟩) h0 s1
  exact turns_ok hv hΦ h1 hvW B Wk R1 o1 nd fr1 e2 hz fun H' P' Fs' F' R' o' nd' fr' f' s' => q H' P' Fs' F' R' o' nd' fr' (fun a m => (f' a m).imp id (back_none E)) (sA.trans s' fun c z => .inl z)
/-- the whole -/
theorem lc_ok {T0 T1 W : List Nat} {vs : List Nat} {src : Cls} {m : Tgt} {t : Tst} {b : Cls} {tb : Addr → L2.St → Hp → (Hp → Prop) → Prop} {Φ : List Nat} (hv : ∀ i, i ∈ vs → κ.getD i 0 = 0) (hΦ : ∀ i, i < κ.length → i ∈ vs ∨ i ∈ Φ) (h0 : ∀ i, i ∈ T0 → i ∈ W) (h1 : ∀ i, i ∈ T1 → i ∈ W) (hvW : ∀ i, i ∈ vs → i ∉ W)
    (B : BodyOk G κ W k tb b) {σ : L2.St} {H : Hp} {Q : VK} (h : tV G W κ (k + 1) (lcF (clF src vs m t b)) σ H Q) :
    tVI G T0 κ src σ H fun J H1 => ∀ l, H1 l = none → ∃ W : Nat → Nat → Hp → Prop, (∃ m, W 0 m (upd H1 l (.lst []))) ∧ ∀ i n H, W i n H →
      (J.stop i H ∧ Q (.ref l) H) ∨ (J.go i H ∧ ∃ Nx : Hp → Prop, (∀ H', Nx H' → ∃ n', n' < n ∧ W (i + 1) n' H') ∧ ∀ x H', J.yld i H x H' → tG G Φ κ κ m x (L2.wipe σ vs) H' fun σ2 H2 => L2.wipe σ2 vs = L2.wipe σ vs ∧ tVT G T1 κ t σ2 H2 fun b H3 =>
        if b = true then tb l σ2 H3 Nx else Nx H3) := by
  obtain ⟨P, ρ, Fs, d, ρ', R, e, q⟩ := h
  unfold lcF clF at e
  obtain ⟨⟨rs, ρ2⟩, e0, e⟩ := Option.bind_eq_some_iff.mp e
  obtain ⟨⟨xs, ρ1⟩, e1, e0⟩ := Option.bind_eq_some_iff.mp e0
  obtain ⟨⟨rs1, ρF⟩, e2, e0⟩ := Option.bind_eq_some_iff.mp e0
  cases e0
  split at e
  case isFalse => cases e
  rename_i hz
  cases e
  refine ⟨P, ρ, Fs, xs, ρ1, R, e1, fun J H1 P1 Fs1 R1 Wk E st gr => fun l hl => ?_⟩
  have En : Ext (fun _ => False) P1 H1 P1 (upd H1 l (.lst [])) := Ext.new fun a o ha => by
    rw [upd_ne (ne_of_none ha hl)]
    exact ha
  obtain ⟨pl, fl⟩ := R1.fresh hl
  have o1 : OwnK G P1 (upd H1 l (.lst [])) (k + 1) (.ref l) (.lst []) [l] := ⟨l, [], [], rfl, upd_same, .nil, rfl⟩
  refine turns_ok (H1 := upd H1 l (.lst [])) (P1 := P1) (Fs1 := Fs1) (F := [l]) (ds := []) hv hΦ h1 hvW B ⟨fun P' H' i L hi => Wk.go P' H' i (En.late.trans L) hi, fun P' H' L => Wk.stop P' H' (En.late.trans L), fun P' H' i x H2 d L => Wk.yld P' H' i x H2 d (En.late.trans L)⟩ (R1.ext En fun _ _ _ z => z) o1 (by simp)
    (fun a m => by rw [List.mem_singleton] at m; subst m; exact ⟨pl, fl⟩) e2 (by simpa using hz) fun H' P' Fs' F' R' o' nd' fr' f' s' => ?_
  have s1 : Stp T0 P H Fs ρ P1 H1 Fs1 ρ1 := ⟨E, st, gr⟩
  have upn : ∀ c, upd H1 l (.lst []) c = none → H1 c = none := fun c z => by
    by_cases y : c = l
    · rw [y]; exact hl
    · rw [upd_ne y] at z; exact z
  have sB : Stp W P1 H1 Fs1 ρ1 P' H' Fs' (unw vs ρ1 ρF) := ⟨((Ext.more En (fun _ z => z.elim) (R1.zm W) (R1.zp W)).trans s'.ext fun c z => by
    rcases z with z | z
    · exact .inl z
    · rw [List.mem_singleton] at z; subst z; exact .inr hl), s'.st, fun i a m => (s'.gr i a m).imp id (upn a)⟩
  have sC := Stp.mono (U := W) R (by simp only [List.mem_append]; rintro i (h | h); exact h0 i h; exact h) (Stp.trans R s1 sB)
  exact q (.ref l) H' P' F' Fs' R' (by simpa using o') nd' (fun a m => ⟨(fr' a m).1, by
    rcases f' a m with z | z
    · rw [List.mem_singleton] at z; subst z; exact back_none E hl
    · exact back_none E (upn a z), (fr' a m).2⟩) sC.ext sC.st sC.gr
end
section
variable {X : Cx} {κ T0 T1 T2 T3 T4 W Φ Φ1 Φc Φd κb : List Nat} {k : Nat} {elt tg iter tg1 iter1 : Expr} {ifs ifs1 : List Expr} {scope : Scope} {own : List (Str × Nat)} {vs1 : List Nat} {pos spos py : Pos} {src src1 : Cls} {m m1 : Tgt} {t t1 : Tst} {e : Sem0}
theorem vts_nil : PTs X [] (tVT (gd X) [] κ yesF) := PTs.imp pts_nil fun σ H Q ⟨P, ρ, Fs, b, ρ', R, e, q⟩ => by
  cases e
  have s := Stp.refl [] R
  exact q H P Fs R s.ext s.st s.gr
theorem vts_one {c : Expr} (h : PT X c (tVT (gd X) T1 κ t)) : PTs X [c] (tVT (gd X) T1 κ t) := pts_one h
/-- the place in a comprehension -/
abbrev Cb (X : Cx) (scope : Scope) (s : Shared) (H : Hp) (C : Addr) (cl : List (Str × Addr)) (fp : List Addr) : Cx := X.blk s H scope (compEnvC scope cl C X.env) fp
theorem ve_lc (W : List Nat) (own : List (Str × Nat)) (hv : ∀ i, i ∈ own.map (·.2) → κ.getD i 0 = 0) (hΦ : ∀ i, i < κ.length → i ∈ own.map (·.2) ∨ i ∈ Φc) (h0 : ∀ i, i ∈ T0 → i ∈ W) (h1 : ∀ i, i ∈ T1 → i ∈ W) (h2 : ∀ i, i ∈ T2 → i ∈ W) (hvW : ∀ i, i ∈ own.map (·.2) → i ∉ W)
    (hc : X.calm = true) (hN : X.N.Nodup) (hi : PI X tg iter (tVI (gd X) T0 κ src)) (ok : BlkOk X.N X.env.scope scope own)
    (hg : ∀ s H C cl fp, PG (Cb X scope s H C cl fp) tg (tG (gd X) Φc κ κ m)) (ht : ∀ s H C cl fp, PTs (Cb X scope s H C cl fp) ifs (tVT (gd X) T1 κ t)) (he : ∀ s H C cl fp, PE (Cb X scope s H C cl fp) elt (tV (gd X) T2 κ k e)) (hs : ∀ x, foldedSetIterable iter X.env x = pure x := by intro _; rfl) :
    PE X (.ListComp elt [⟨tg, iter, ifs, 0⟩] scope pos) (tV (gd X) W κ (k + 1) (lcF (clF src (own.map (·.2)) m t (oneF e)))) :=
  (pe_lc hc hN hi ok hg ht he hs).imp fun σ H Q h => lc_ok hv hΦ h0 h1 hvW (one_ok h2) h
theorem vs_setLc {i j : Nat} {y : Str} (W : List Nat) (own : List (Str × Nat)) (hv : ∀ i, i ∈ own.map (·.2) → κ.getD i 0 = 0) (hΦ : ∀ i, i < κ.length → i ∈ own.map (·.2) ∨ i ∈ Φc) (h0 : ∀ i, i ∈ T0 → i ∈ W) (h1 : ∀ i, i ∈ T1 → i ∈ W) (h2 : ∀ i, i ∈ T2 → i ∈ W) (hvW : ∀ i, i ∈ own.map (·.2) → i ∉ W) (hi0 : i ∉ Φ) (hk : i < κ.length)
    (hc : X.calm = true) (hN : X.N.Nodup) (hy : X.N[i]? = some y) (hyl : X.env.scope.names.lookup y = some .local) (hsw : swapsWith (.ListComp elt [⟨tg, iter, ifs, 0⟩] scope pos) (some (.Name y py)) spos.line X.env = pure true) (hi : PI X tg iter (tVI (gd X) T0 κ src)) (ok : BlkOk X.N X.env.scope scope own)
    (hg : ∀ s H C cl fp, PG (Cb X scope s H C cl fp) tg (tG (gd X) Φc κ κ m)) (ht : ∀ s H C cl fp, PTs (Cb X scope s H C cl fp) ifs (tVT (gd X) T1 κ t)) (he : ∀ s H C cl fp, PE (Cb X scope s H C cl fp) elt (tV (gd X) T2 κ k e)) (hs : ∀ x, foldedSetIterable iter X.env x = pure x := by intro _; rfl) :
    PS X (.Assign [.Name y py] (.ListComp elt [⟨tg, iter, ifs, 0⟩] scope pos) spos) (tS (gd X) Φ κ (κ.set i (k + 1)) κb j (setS i (lcF (clF src (own.map (·.2)) m t (oneF e))))) :=
  PS.imp (ps_setLc hc hN hy hyl hsw hi ok hg ht he hs) fun E σ H ⟨M, P, ρ, Fs, o, hM, R, A, e, q⟩ => lc_ok hv hΦ h0 h1 hvW (one_ok h2) (set_at hM hi0 hk R A e q)
theorem ve_lc2 (W : List Nat) (own : List (Str × Nat)) (vs1 : List Nat) (hv : ∀ i, i ∈ own.map (·.2) → κ.getD i 0 = 0) (hΦ : ∀ i, i < κ.length → i ∈ own.map (·.2) ∨ i ∈ Φc) (hΦd : ∀ i, i < κ.length → i ∈ vs1 ∨ i ∈ Φd) (hvs : ∀ i, i ∈ vs1 → i ∈ own.map (·.2)) (h0 : ∀ i, i ∈ T0 → i ∈ W) (h1 : ∀ i, i ∈ T1 → i ∈ W) (h2 : ∀ i, i ∈ T2 → i ∈ W) (h3 : ∀ i, i ∈ T3 → i ∈ W) (h4 : ∀ i, i ∈ T4 → i ∈ W) (hvW : ∀ i, i ∈ own.map (·.2) → i ∉ W)
    (hc : X.calm = true) (hN : X.N.Nodup) (hi : PI X tg iter (tVI (gd X) T0 κ src)) (ok : BlkOk X.N X.env.scope scope own)
    (hg : ∀ s H C cl fp, PG (Cb X scope s H C cl fp) tg (tG (gd X) Φc κ κ m)) (ht : ∀ s H C cl fp, PTs (Cb X scope s H C cl fp) ifs (tVT (gd X) T1 κ t)) (hi1 : ∀ s H C cl fp, PI (Cb X scope s H C cl fp) tg1 iter1 (tVI (gd X) T3 κ src1))
    (hg1 : ∀ s H C cl fp, PG (Cb X scope s H C cl fp) tg1 (tG (gd X) Φd κ κ m1)) (ht1 : ∀ s H C cl fp, PTs (Cb X scope s H C cl fp) ifs1 (tVT (gd X) T4 κ t1)) (he : ∀ s H C cl fp, PE (Cb X scope s H C cl fp) elt (tV (gd X) T2 κ k e)) (hs : ∀ x, foldedSetIterable iter X.env x = pure x := by intro _; rfl) (hs1 : ∀ env x, foldedSetIterable iter1 env x = pure x := by intro _ _; rfl) :
    PE X (.ListComp elt [⟨tg, iter, ifs, 0⟩, ⟨tg1, iter1, ifs1, 0⟩] scope pos) (tV (gd X) W κ (k + 1) (lcF (clF src (own.map (·.2)) m t (clF src1 vs1 m1 t1 (oneF e))))) :=
  (pe_lc2 hc hN hi ok hvs hg ht hi1 hg1 ht1 he hs hs1).imp fun σ H Q h => lc_ok hv hΦ h0 h1 hvW (inner_ok (fun i z => hv i (hvs i z)) hΦd h3 h4 (fun i z => hvW i (hvs i z)) (one_ok h2)) h
theorem vs_setLc2 {i j : Nat} {y : Str} (W : List Nat) (own : List (Str × Nat)) (vs1 : List Nat) (hv : ∀ i, i ∈ own.map (·.2) → κ.getD i 0 = 0) (hΦ : ∀ i, i < κ.length → i ∈ own.map (·.2) ∨ i ∈ Φc) (hΦd : ∀ i, i < κ.length → i ∈ vs1 ∨ i ∈ Φd) (hvs : ∀ i, i ∈ vs1 → i ∈ own.map (·.2)) (h0 : ∀ i, i ∈ T0 → i ∈ W) (h1 : ∀ i, i ∈ T1 → i ∈ W) (h2 : ∀ i, i ∈ T2 → i ∈ W) (h3 : ∀ i, i ∈ T3 → i ∈ W) (h4 : ∀ i, i ∈ T4 → i ∈ W) (hvW : ∀ i, i ∈ own.map (·.2) → i ∉ W) (hi0 : i ∉ Φ) (hk : i < κ.length)
    (hc : X.calm = true) (hN : X.N.Nodup) (hy : X.N[i]? = some y) (hyl : X.env.scope.names.lookup y = some .local) (hsw : swapsWith (.ListComp elt [⟨tg, iter, ifs, 0⟩, ⟨tg1, iter1, ifs1, 0⟩] scope pos) (some (.Name y py)) spos.line X.env = pure true) (hi : PI X tg iter (tVI (gd X) T0 κ src)) (ok : BlkOk X.N X.env.scope scope own)
    (hg : ∀ s H C cl fp, PG (Cb X scope s H C cl fp) tg (tG (gd X) Φc κ κ m)) (ht : ∀ s H C cl fp, PTs (Cb X scope s H C cl fp) ifs (tVT (gd X) T1 κ t)) (hi1 : ∀ s H C cl fp, PI (Cb X scope s H C cl fp) tg1 iter1 (tVI (gd X) T3 κ src1))
    (hg1 : ∀ s H C cl fp, PG (Cb X scope s H C cl fp) tg1 (tG (gd X) Φd κ κ m1)) (ht1 : ∀ s H C cl fp, PTs (Cb X scope s H C cl fp) ifs1 (tVT (gd X) T4 κ t1)) (he : ∀ s H C cl fp, PE (Cb X scope s H C cl fp) elt (tV (gd X) T2 κ k e)) (hs : ∀ x, foldedSetIterable iter X.env x = pure x := by intro _; rfl) (hs1 : ∀ env x, foldedSetIterable iter1 env x = pure x := by intro _ _; rfl) :
    PS X (.Assign [.Name y py] (.ListComp elt [⟨tg, iter, ifs, 0⟩, ⟨tg1, iter1, ifs1, 0⟩] scope pos) spos) (tS (gd X) Φ κ (κ.set i (k + 1)) κb j (setS i (lcF (clF src (own.map (·.2)) m t (clF src1 vs1 m1 t1 (oneF e)))))) :=
  PS.imp (ps_setLc2 hc hN hy hyl hsw hi ok hvs hg ht hi1 hg1 ht1 he hs hs1) fun E σ H ⟨M, P, ρ, Fs, o, hM, R, A, e, q⟩ => lc_ok hv hΦ h0 h1 hvW (inner_ok (fun i z => hv i (hvs i z)) hΦd h3 h4 (fun i z => hvW i (hvs i z)) (one_ok h2)) (set_at hM hi0 hk R A e q)
end
end VS

set_option Elab.async false
set_option linter.all false
set_option maxRecDepth 100000
/-! Sources over data: what a for and a comprehension walk over. -/
namespace VS
open PySem PySem.Spec PyProof.Rows L2

def seqD : D → Option (List D)
  | .lst xs => some xs
  | .tup xs => some xs
  | _ => none
/-! ### a list or a tuple -/
def iSeq (K : PySem.W.Frag) (tl : TE) : TI := fun σ H R => tl σ H fun x H1 => ∃ a, x = .ref a ∧ (((∃ xs, SqL K H1 a xs) ∧ R (Itl K a) H1) ∨ ((∃ xs, SqT K H1 a xs) ∧ R (Itt K a) H1))
theorem pi_seq {X : Cx} {tg e : Expr} {te : TE} (he : PE X e te) : PI X tg e (iSeq X.K te) := by
  refine ⟨fun pins s σ H R I h => thn (he.run pins s σ H _ I h) fun v s1 ⟨x, H1, I1, rx, a, ex, q⟩ => ?_⟩
  subst ex
  cases rx
  rcases q with ⟨⟨xs, hq⟩, q⟩ | ⟨⟨xs, hq⟩, q⟩
  · obtain ⟨its, rv, p, hz⟩ := I1.list hq
    exact wpAny_pyIter_list p.isList (pi_one I1 _ (turn_list a _) ⟨_, Heap.get?_push_size _ rfl, rfl, rfl⟩ q)
  · obtain ⟨its, rv, p, hz⟩ := I1.tuple hq
    exact wpAny_pyIter_tuple (show s1.heap.IsTuple a its.toArray from p) (pi_one I1 _ (turn_tuple a _) ⟨_, Heap.get?_push_size _ rfl, rfl, rfl⟩ q)
section
variable {G : Wd} {P P' : Addr → Prop} {H H' : Hp}
theorem Den.lstI {a : Addr} {ds : List D} (h : Den G P H (.ref a) (.lst ds)) : ∃ vs, SqL G.K H a vs ∧ DenL G P H vs ds := by
  cases h with
  | lst h r => exact ⟨_, h.sq, r⟩
theorem Den.tupI {a : Addr} {ds : List D} (h : Den G P H (.ref a) (.tup ds)) : ∃ vs, SqT G.K H a vs ∧ DenL G P H vs ds := by
  cases h with
  | tup h r => exact ⟨_, .inl (.inl h), r⟩
theorem walkL {a : Addr} {ds : List D} (h : Den G P H (.ref a) (.lst ds)) : WalkD G (Itl G.K a) ds P H where
  go := fun P' H' i L hi => by
    obtain ⟨vs, h1, h2⟩ := (L _ _ h).lstI
    have := h2.length
    exact ⟨vs, vs[i], h1, List.getElem?_eq_getElem (by omega)⟩
  stop := fun P' H' L => by
    obtain ⟨vs, h1, h2⟩ := (L _ _ h).lstI
    exact ⟨vs, h1, Nat.le_of_eq h2.length⟩
  yld := fun P' H' i x H2 d L hd hy => by
    obtain ⟨vs, h1, h2⟩ := (L _ _ h).lstI
    obtain ⟨rfl, hy⟩ := hy
    obtain ⟨v, h3, h4⟩ := h2.get hd
    have := hy vs h1
    rw [h3] at this
    cases this
    exact ⟨fun _ _ z => z, h4⟩
theorem walkT {a : Addr} {ds : List D} (h : Den G P H (.ref a) (.tup ds)) : WalkD G (Itt G.K a) ds P H where
  go := fun P' H' i L hi => by
    obtain ⟨vs, h1, h2⟩ := (L _ _ h).tupI
    have := h2.length
    exact ⟨vs, vs[i], h1, List.getElem?_eq_getElem (by omega)⟩
  stop := fun P' H' L => by
    obtain ⟨vs, h1, h2⟩ := (L _ _ h).tupI
    exact ⟨vs, h1, Nat.le_of_eq h2.length⟩
  yld := fun P' H' i x H2 d L hd hy => by
    obtain ⟨vs, h1, h2⟩ := (L _ _ h).tupI
    obtain ⟨rfl, hy⟩ := hy
    obtain ⟨v, h3, h4⟩ := h2.get hd
    have := hy vs h1
    rw [h3] at this
    cases this
    exact ⟨fun _ _ z => z, h4⟩
end
def seqSrc (f : Sem0) : Cls := fun ρ => (f ρ).bind fun p => (seqD p.1).bind fun xs => some (xs, p.2)
section
variable {X : Cx} {tg e : Expr} {T κ : List Nat} {f : Sem0}
theorem vi_seq (he : PE X e (tV (gd X) T κ 0 f)) : PI X tg e (tVI (gd X) T κ (seqSrc f)) := (pi_seq he).imp fun σ H Q ⟨P, ρ, Fs, ds, ρ', R, e, q⟩ => by
  unfold seqSrc at e
  obtain ⟨⟨d, ρ1⟩, e1, e⟩ := Option.bind_eq_some_iff.mp e
  obtain ⟨xs, e2, e⟩ := Option.bind_eq_some_iff.mp e
  cases e
  refine ⟨P, ρ, Fs, d, _, R, e1, fun v H' P' F Fs' R' o nd fr E st gr => ?_⟩
  have dn := o.1
  cases d with
  | lst ys =>
    cases e2
    cases dn with
    | lst h r =>
      have dn : Den (gd X) P' H' _ _ := .lst h r
      obtain ⟨vs, h1, h2⟩ := dn.lstI
      exact ⟨_, rfl, .inl ⟨⟨vs, h1⟩, q _ H' P' Fs' R' (walkL dn) E st gr⟩⟩
  | tup ys =>
    cases e2
    cases dn with
    | tup h r =>
      have dn : Den (gd X) P' H' _ _ := .tup h r
      obtain ⟨vs, h1, h2⟩ := dn.tupI
      exact ⟨_, rfl, .inr ⟨⟨vs, h1⟩, q _ H' P' Fs' R' (walkT dn) E st gr⟩⟩
  | _ => cases e2
end
/-! ### ranges -/
def rngD (lo : Int) (n : Nat) : List D := (List.range n).map fun i => .int (lo + (i : Nat))
def rngC (lo c : Int) (n : Nat) : List D := (List.range n).map fun i => .int (lo + (i : Nat) * c)
def inB (i : Int) : Bool := decide (-(2 ^ 62) ≤ i ∧ i < 2 ^ 62)
def rng1 (os : List Od) : Cls := fun ρ => (seqF os ρ).bind fun p => match p.1 with
  | [.int j] => if inB j = true then some (rngD 0 j.toNat, p.2) else none
  | _ => none
def rng2 (os : List Od) : Cls := fun ρ => (seqF os ρ).bind fun p => match p.1 with
  | [.int i, .int j] => if inB i = true ∧ inB j = true then some (rngD i (j - i).toNat, p.2) else none
  | _ => none
def rngDown (os : List Od) : Cls := fun ρ => (seqF os ρ).bind fun p => match p.1 with
  | [.int i, .int j, .int c] => if c = -1 ∧ inB i = true ∧ inB j = true then some (rngC i (-1) (i - j).toNat, p.2) else none
  | _ => none
theorem inB_iff {i : Int} (h : inB i = true) : -(2 ^ 62) ≤ i ∧ i < 2 ^ 62 := by
  unfold inB at h
  exact of_decide_eq_true h
section
variable {G : Wd} {P P' : Addr → Prop} {H H' : Hp}
theorem walkR {lo : Int} {n : Nat} : WalkD G (Itr lo n) (rngD lo n) P H where
  go := fun P' H' i L hi => by
    unfold rngD at hi
    simp at hi
    exact hi
  stop := fun P' H' L => by
    show n ≤ (rngD lo n).length
    unfold rngD
    simp
  yld := fun P' H' i x H2 d L hd hy => by
    obtain ⟨rfl, rfl⟩ := hy
    unfold rngD at hd
    rw [List.getElem?_map] at hd
    cases h : (List.range n)[i]? with
    | none => rw [h] at hd; cases hd
    | some j =>
      rw [h] at hd
      cases hd
      obtain ⟨h1, h2⟩ := List.getElem?_eq_some_iff.mp h
      rw [List.getElem_range] at h2
      subst h2
      exact ⟨fun _ _ z => z, .int _⟩
theorem walkC {lo c : Int} {n : Nat} : WalkD G (Itc lo c n) (rngC lo c n) P H where
  go := fun P' H' i L hi => by
    unfold rngC at hi
    simp at hi
    exact hi
  stop := fun P' H' L => by
    show n ≤ (rngC lo c n).length
    unfold rngC
    simp
  yld := fun P' H' i x H2 d L hd hy => by
    obtain ⟨rfl, rfl⟩ := hy
    unfold rngC at hd
    rw [List.getElem?_map] at hd
    cases h : (List.range n)[i]? with
    | none => rw [h] at hd; cases hd
    | some j =>
      rw [h] at hd
      cases hd
      obtain ⟨h1, h2⟩ := List.getElem?_eq_some_iff.mp h
      rw [List.getElem_range] at h2
      subst h2
      exact ⟨fun _ _ z => z, .int _⟩
theorem int_own {k : Nat} {v : V} {i : Int} {F : List Addr} (o : OwnK G P H k v (.int i) F) : v = .int i := by
  have := (o.of_flat rfl).1
  cases this
  rfl
end
section
variable {X : Cx} {tg a b c : Expr} {κ : List Nat} {os : List Od} {p pos : Pos}
/-- a source out of arguments' values -/
theorem src_args {Q : It → Hp → Prop} {σ : L2.St} {H : Hp} {P : Addr → Prop} {ρ ρ' ds : List D} {Fs : Nat → List Addr} {J : It} {xs : List D} {R0 : List V → Hp → Prop} (wf : WfSeq κ os) (R : Rep (gd X) P H σ ρ κ Fs) (e1 : seqF os ρ = some (ds, ρ'))
    (q : ∀ (J : It) (H' : Hp) (P' : Addr → Prop) (Fs' : Nat → List Addr), Rep (gd X) P' H' σ ρ' κ Fs' → WalkD (gd X) J xs P' H' → Ext (Zt (Ts os) Fs) P H P' H' → (∀ i, i ∉ (Ts os) → Fs' i = Fs i ∧ ρ'[i]? = ρ[i]?) → (∀ i a, a ∈ Fs' i → a ∈ Fs i ∨ H a = none) → Q J H')
    (hv : ∀ vs H1 P1 Fs1 Gs, Quad (OdAt (gd X) P1 H1 σ Fs1) os vs ds Gs → Q J H1 → R0 vs H1) (hW : ∀ P H, WalkD (gd X) J xs P H) : argsT (gd X) κ os σ H R0 :=
  args_ok os wf R e1 fun vs H1 P1 Gs Fs1 R1 qd nd fr E st gr => hv vs H1 P1 Fs1 Gs qd (q J H1 P1 Fs1 R1 (hW P1 H1) E st gr)
theorem vi_rng1 (hg : Gl X "range") (hm : X.mg "range" = none) (ha : VA X κ [a] os) (hs : starEach [a] X.env = [(false, eval a X.env)] := by rfl) : PI X tg (.Call (.Name "range" p) [a] [] pos) (tVI (gd X) (Ts os) κ (rng1 os)) :=
  (pi_range1 hg hm ha.pa hs).imp fun σ H Q ⟨P, ρ, Fs, xs, ρ', R, e, q⟩ => by
    unfold rng1 at e
    obtain ⟨⟨ds, ρ1⟩, e1, e⟩ := Option.bind_eq_some_iff.mp e
    dsimp only at e
    split at e
    · rename_i j
      split at e
      · rename_i hb
        cases e
        refine src_args (J := Itr 0 j.toNat) ha.wf R e1 q (fun vs H1 P1 Fs1 Gs qd z => ?_) fun _ _ => walkR
        cases qd with
        | cons r1 qd =>
          cases qd
          exact ⟨j, by rw [int_own r1.1], (inB_iff hb).1, (inB_iff hb).2, z⟩
      · cases e
    · cases e
theorem vi_rng2 (hg : Gl X "range") (hm : X.mg "range" = none) (ha : VA X κ [a, b] os) (hs : starEach [a, b] X.env = [(false, eval a X.env), (false, eval b X.env)] := by rfl) (hs2 : starEach [b] X.env = [(false, eval b X.env)] := by rfl) : PI X tg (.Call (.Name "range" p) [a, b] [] pos) (tVI (gd X) (Ts os) κ (rng2 os)) :=
  (pi_range2 hg hm ha.pa hs hs2).imp fun σ H Q ⟨P, ρ, Fs, xs, ρ', R, e, q⟩ => by
    unfold rng2 at e
    obtain ⟨⟨ds, ρ1⟩, e1, e⟩ := Option.bind_eq_some_iff.mp e
    dsimp only at e
    split at e
    · rename_i i j
      split at e
      · rename_i hb
        cases e
        refine src_args (J := Itr i (j - i).toNat) ha.wf R e1 q (fun vs H1 P1 Fs1 Gs qd z => ?_) fun _ _ => walkR
        cases qd with
        | cons r1 qd =>
          cases qd with
          | cons r2 qd =>
            cases qd
            exact ⟨i, j, by rw [int_own r1.1, int_own r2.1], ⟨(inB_iff hb.1).1, (inB_iff hb.1).2, (inB_iff hb.2).1, (inB_iff hb.2).2⟩, z⟩
      · cases e
    · cases e
theorem vi_rngDown (hg : Gl X "range") (hm : X.mg "range" = none) (ha : VA X κ [a, b, c] os) (hs : starEach [a, b, c] X.env = (false, eval a X.env) :: starEach [b, c] X.env := by rfl) (hpl : (backTo pos (starEach [b, c] X.env)).any (·.1) = false := by rfl) : PI X tg (.Call (.Name "range" p) [a, b, c] [] pos) (tVI (gd X) (Ts os) κ (rngDown os)) :=
  (pi_range3 hg hm ha.pa hs hpl).imp fun σ H Q ⟨P, ρ, Fs, xs, ρ', R, e, q⟩ => by
    unfold rngDown at e
    obtain ⟨⟨ds, ρ1⟩, e1, e⟩ := Option.bind_eq_some_iff.mp e
    dsimp only at e
    split at e
    · rename_i i j c
      split at e
      · rename_i hb
        obtain ⟨rfl, hb1, hb2⟩ := hb
        cases e
        refine src_args (J := Itc i (-1) (i - j).toNat) ha.wf R e1 q (fun vs H1 P1 Fs1 Gs qd z => ?_) fun _ _ => walkC
        cases qd with
        | cons r1 qd =>
          cases qd with
          | cons r2 qd =>
            cases qd with
            | cons r3 qd =>
              cases qd
              exact ⟨i, j, -1, _, by rw [int_own r1.1, int_own r2.1, int_own r3.1], RgC.neg (inB_iff hb1).1 (inB_iff hb1).2 (inB_iff hb2).1 (inB_iff hb2).2, z⟩
      · cases e
    · cases e
end
/-! ### enumerate -/
def enumD : Nat → List D → List D
  | _, [] => []
  | n, x :: xs => .tup [.int (n : Nat), x] :: enumD (n + 1) xs
theorem enumD_length : ∀ (n : Nat) (xs : List D), (enumD n xs).length = xs.length
  | _, [] => rfl
  | n, x :: xs => by unfold enumD; rw [List.length_cons, List.length_cons, enumD_length]
theorem enumD_get : ∀ (n : Nat) (xs : List D) (i : Nat), (enumD n xs)[i]? = xs[i]?.map fun x => .tup [.int ((n + i : Nat) : Int), x]
  | _, [], _ => rfl
  | n, x :: xs, 0 => rfl
  | n, x :: xs, i + 1 => by
    unfold enumD
    rw [List.getElem?_cons_succ, List.getElem?_cons_succ, enumD_get, Nat.add_right_comm]
    rfl
/-- over a tuple -/
def IteT (K : PySem.W.Frag) (a : Addr) : It where
  go := fun i H => ∃ (xs : List V) (x : V), SqT K H a xs ∧ xs[i]? = some x
  yld := fun i H v H' => ∃ T x, v = .ref T ∧ H T = none ∧ H' = upd H T (.tup [.int (i : Nat), x]) ∧ ∀ xs, SqT K H a xs → xs[i]? = some x
  stop := fun i H => ∃ xs : List V, SqT K H a xs ∧ xs.length = i
theorem turn_enumT {P : Program} {w : World} {K : PySem.W.Frag} {elts : List Expr} {kk : Nat} {tpos : Pos} (a e it : Addr) (hae : a ≠ it) :
    Turn P w K (.Tuple elts kk tpos) (IteT K a) [e, it] e (fun i h => (∃ old, IsEnum h e it ((i : Nat) : Int) old) ∧ h.IsTupleIter it a i ∧ e ≠ it) where
  mem := by simp
  obj := fun i h ⟨⟨old, he⟩, ⟨o, ho, hc, hd⟩, _⟩ b hb => by
    rcases (by simpa using hb : b = e ∨ b = it) with rfl | rfl
    · exact ⟨_, he, fun v q => nomatch q⟩
    · exact ⟨o, ho, fun v q => by rw [hd] at q; cases q⟩
  keep := fun i h h' ⟨⟨old, he⟩, hi, hne⟩ k => ⟨⟨old, k e (by simp) _ he⟩, hi.at fun o q => k it (by simp) o q, hne⟩
  item := by
    rintro X rfl rfl rfl hc i pins s σ H E I hf ⟨⟨old, he⟩, hit, hne⟩ ⟨xs, x, hq, hx⟩
    obtain ⟨its, rv, p, hz⟩ := I.tuple hq
    obtain ⟨u, hu, ru⟩ := rv.get hx
    have hel : e < s.heap.objs.size := Heap.lt_size he
    have hil : it < s.heap.objs.size := let ⟨_, q, _⟩ := hit; Heap.lt_size q
    have hea : e ≠ a := fun z => by
      obtain ⟨o, ho, hcl, _⟩ := p
      rw [← z] at ho
      have := ho.symm.trans he
      cases this
      simp at hcl
    have hu' : its.toArray[i]? = some u := by simpa using hu
    have hlt : i < its.toArray.size := by
      by_cases c : i < its.toArray.size
      · exact c
      · rw [Array.getElem?_eq_none (by omega)] at hu'; cases hu'
    refine wpAny_pyNext_enum_itemD (Draws.tuple (show X.A.in1.handled = none from I.ok.hd hc) it a hae its.toArray) he ⟨hit, p⟩ hlt hne (by simp [hne, hea]) fun y h' tk hy ho hs hT hsz hk => ?_
    have ey : u = y := Option.some.inj (hu'.symm.trans hy)
    subst ey
    refine ⟨_, rfl, wpAny_letOwnedTupleGo_enum (s := { s with heap := h', toks := tk + 1 }) ho fun h'' he' sb => ?_⟩
    have hT2 := (sb.2 _ (Nat.ne_of_gt hel)).trans hT
    have new : ObjOk X.prog X.w (upd H s.heap.objs.size (.tup [.int (i : Nat), x])) h'' s.heap.objs.size (.tup [.int (i : Nat), x]) :=
      ⟨show 2 ≤ sizeLine by decide, [.int i tk, u], .cons ⟨_, rfl⟩ (.cons ru .nil), ⟨_, hT2, rfl, _, rfl⟩⟩
    have I1 : Inv X pins σ (upd H s.heap.objs.size (.tup [.int (i : Nat), x])) { s with heap := h'', toks := tk + 1 } :=
      I.turnedNew (ch := [e, it]) (fun b ob hb q => (sb.2 b fun z => hb (by simp [z])).trans (hk b ob (fun z => hb (by simp [z])) (fun z => hb (by simp [z])) q)) hf (Nat.le_refl _) new
    refine ⟨.ref s.heap.objs.size, _, I1, rfl, ⟨_, x, rfl, I.hok.fresh (Nat.le_refl _), rfl, fun ys hy => by rw [I.tuple_inj hy hq]; exact hx⟩, ⟨⟨u, ?_⟩, hs.1.at fun o q => (sb.2 it (Ne.symm hne)).trans q, hne⟩, fun b hb => ?_⟩
    · rw [Int.natCast_succ]; exact he'
    · have hlb : b < s.heap.objs.size := by
        rcases (by simpa using hb : b = e ∨ b = it) with rfl | rfl
        · exact hel
        · exact hil
      rw [upd_ne (Nat.ne_of_lt hlb)]
      exact (hf b hb).1
  done := by
    rintro X rfl rfl rfl hc i pins s σ H E I hf ⟨⟨old, he⟩, hit, hne⟩ ⟨xs, hq, hx⟩
    obtain ⟨its, rv, p, hz⟩ := I.tuple hq
    obtain ⟨f0, f1, f2, f3, f4, f5⟩ := hf it (by simp)
    have hn : its.toArray.size = i := by
      have := rv.length
      simp
      omega
    exact wpAny_pyNext_enum_endD (Draws.tuple (show X.A.in1.handled = none from I.ok.hd hc) it a hae its.toArray) he ⟨hn ▸ hit, p⟩ fun h' eb => ⟨rfl, I.turned (t' := s.toks) (fun b o hb e => eb b o hb e) f0 f1 f3 f4 f5⟩
  self := fun A i s Q E ⟨⟨_, he⟩, _⟩ h => wpAny_pyIter_enum he h
set_option maxHeartbeats 1000000 in
theorem meets_enumT (t : Addr) (items : Array Value) :
    Meets (Builtin.«enumerate.__new__» ⟨[.type "enumerate", .ref t], []⟩) (fun _ R s => s.heap.IsTuple t items ∧
      R (.ok (.ret (.ref (s.heap.push { cls := .type "tuple_iterator", data := .fields #[.ref t, .int 0 0] }).objs.size)))
        { s with heap := (s.heap.push { cls := .type "tuple_iterator", data := .fields #[.ref t, .int 0 0] }).push { cls := .type "enumerate", data := .fields #[.none, .bool false, .ref s.heap.objs.size, rawInt 0, .none, .none] } }) :=
  .of_wp fun prog w A R s h => by
    obtain ⟨hp, g, d, tk, os⟩ := s
    obtain ⟨hl, h⟩ := h
    have hsub := sub_enumerate
    have q1 : ∀ {A' : Around} {E : Value → Shared → Prop} {Q : Value → Shared → Prop}, Q (.ref hp.objs.size) ⟨hp.push { cls := .type "tuple_iterator", data := .fields #[.ref t, .int 0 0] }, g, d, tk, os⟩ → wpAny (model prog w) A' (pyIter (.ref t)) Q E ⟨hp, g, d, tk, os⟩ :=
      fun q => wpAny_pyIter_tuple hl q
    wp_walk using q1
    refine wpAny_stack_any fun st => wpAny_pure ?_
    split
    · rename_i c _ _ _ _ _
      cases (c == Value.type "enumerate") <;> (wp_walk using q1; exact ⟨_, rfl, h⟩)
    · wp_walk using q1
      exact ⟨_, rfl, h⟩
theorem call_enumT {prog : Program} {w : World} {A : Around} {E : Value → Shared → Prop} {s : Shared} {t : Addr} {items : Array Value} {Q : Value → Shared → Prop} (hL : s.heap.IsTuple t items)
    (h : ∀ h', IsEnum h' (s.heap.objs.size + 1) s.heap.objs.size 0 .none → h'.IsTupleIter s.heap.objs.size t 0 → (∀ b o, s.heap.get? b = some o → h'.get? b = some o) → Q (.ref (s.heap.objs.size + 1)) { s with heap := h' }) :
    wpAny (model prog w) A (call (.type "enumerate") [.ref t]) Q E s := by
  refine callType_new F.called_enumerate (by decide) (F.typeCall_enumerate_1 _) (F.newCall_enumerate_1 _) (fun obj => F.args_object_init_2 obj _) F.entry_enumerate_new (meets_enumT t items) ⟨hL, ?_⟩
  have hz : (s.heap.push { cls := .type "tuple_iterator", data := .fields #[.ref t, .int 0 0] }).objs.size = s.heap.objs.size + 1 := Heap.size_push ..
  show _ ∧ _
  rw [hz]
  have he := Heap.get?_push_size (s.heap.push { cls := .type "tuple_iterator", data := .fields #[.ref t, .int 0 0] }) (o := { cls := .type "enumerate", data := .fields #[.none, .bool false, .ref s.heap.objs.size, rawInt 0, .none, .none] }) rfl
  rw [hz] at he
  exact ⟨⟨_, he, rfl⟩, h _ he ⟨_, Heap.get?_push_of_some _ (Heap.get?_push_size _ rfl), rfl, rfl⟩ fun b o x => Heap.get?_push_of_some _ (Heap.get?_push_of_some _ x)⟩
def iEnumA (K : PySem.W.Frag) (ta : TA) : TI := fun σ H R => ta σ H fun vs H1 => ∃ a xs, vs = [.ref a] ∧ ((SqL K H1 a xs ∧ R (Ite K a) H1) ∨ (SqT K H1 a xs ∧ R (IteT K a) H1))
theorem pi_enumA {X : Cx} {e : Expr} {ta : TA} {p pos tpos : Pos} {elts : List Expr} {kk : Nat} (hg : Gl X "enumerate") (hm : X.mg "enumerate" = none) (ha : PA X [e] ta) (hs : starEach [e] X.env = [(false, eval e X.env)] := by rfl) :
    PI X (.Tuple elts kk tpos) (.Call (.Name "enumerate" p) [e] [] pos) (iEnumA X.K ta) := by
  refine ⟨fun pins s σ H R I h => Call_ (ld_blt I hg hm boot_enumerate (PyProof.Rows.callWith_type1 (thn (ha.run pos pins s σ H _ I h) fun us s1 ⟨vs, H1, I1, r1, a, xs, ex, q⟩ => ?_) hs rfl))⟩
  subst ex
  cases r1 with
  | cons r rr =>
    cases rr
    cases r
    have fr : ∀ b, b ∈ [s1.heap.objs.size + 1, s1.heap.objs.size] → FpOk X pins H1 b := fun b hb => by
      have hle : s1.heap.objs.size ≤ b := by
        rcases (by simpa using hb : b = s1.heap.objs.size + 1 ∨ b = s1.heap.objs.size) with z | z <;> omega
      exact I1.fpOk hle (I1.hok.fresh hle)
    rcases q with ⟨hq, q⟩ | ⟨hq, q⟩
    · obtain ⟨its, rv, p', hz⟩ := I1.list hq
      exact call_enumerate_list p'.isList fun h' he hit hsz hk => wpAny_pyIter_enum he
        ⟨s1.heap.objs.size + 1, [s1.heap.objs.size + 1, s1.heap.objs.size], _, _, H1, rfl, I1.kept (t' := s1.toks) hk, turn_enum a _ _, ⟨⟨.none, he⟩, hit, Nat.succ_ne_self _⟩, fr, q⟩
    · obtain ⟨its, rv, p', hz⟩ := I1.tuple hq
      have hlt : a < s1.heap.objs.size := let ⟨_, ho, _⟩ := p'; Heap.lt_size ho
      exact call_enumT (show s1.heap.IsTuple a its.toArray from p') fun h' he hit hk => wpAny_pyIter_enum he
        ⟨s1.heap.objs.size + 1, [s1.heap.objs.size + 1, s1.heap.objs.size], _, _, H1, rfl, I1.kept (t' := s1.toks) hk, turn_enumT a _ _ (Nat.ne_of_lt hlt), ⟨⟨.none, he⟩, hit, Nat.succ_ne_self _⟩, fr, q⟩
section
variable {G : Wd} {P P' : Addr → Prop} {H H' : Hp}
theorem den_pair {T : Addr} {x y : V} {d d' : D} (hT : H T = none) (h1 : Den G P H x d) (h2 : Den G P H y d') : (∀ a o, H a = some o → upd H T (.tup [x, y]) a = some o) ∧ Den G P (upd H T (.tup [x, y])) (.ref T) (.tup [d, d']) := by
  have k : ∀ a o, H a = some o → upd H T (.tup [x, y]) a = some o := fun a o e => by rw [upd_ne (ne_of_none e hT)]; exact e
  have E : Ext (fun _ => False) P H P (upd H T (.tup [x, y])) := Ext.new k
  exact ⟨k, .tup upd_same (.cons (h1.ext E) (.cons (h2.ext E) .nil))⟩
theorem walkE {a : Addr} {ds : List D} (h : Den G P H (.ref a) (.lst ds)) : WalkD G (Ite G.K a) (enumD 0 ds) P H where
  go := fun P' H' i L hi => by
    rw [enumD_length] at hi
    obtain ⟨vs, h1, h2⟩ := (L _ _ h).lstI
    have := h2.length
    exact ⟨vs, vs[i], h1, List.getElem?_eq_getElem (by omega)⟩
  stop := fun P' H' L => by
    obtain ⟨vs, h1, h2⟩ := (L _ _ h).lstI
    exact ⟨vs, h1, by rw [enumD_length]; exact Nat.le_of_eq h2.length⟩
  yld := fun P' H' i x H2 d L hd hy => by
    obtain ⟨vs, h1, h2⟩ := (L _ _ h).lstI
    obtain ⟨T, y, rfl, hT, rfl, hy⟩ := hy
    rw [enumD_get] at hd
    cases hx : ds[i]? with
    | none => rw [hx] at hd; cases hd
    | some d' =>
      rw [hx] at hd
      cases hd
      obtain ⟨v, h3, h4⟩ := h2.get hx
      have := hy vs h1
      rw [h3] at this
      cases this
      rw [Nat.zero_add]
      exact den_pair hT (.int _) h4
theorem walkET {a : Addr} {ds : List D} (h : Den G P H (.ref a) (.tup ds)) : WalkD G (IteT G.K a) (enumD 0 ds) P H where
  go := fun P' H' i L hi => by
    rw [enumD_length] at hi
    obtain ⟨vs, h1, h2⟩ := (L _ _ h).tupI
    have := h2.length
    exact ⟨vs, vs[i], h1, List.getElem?_eq_getElem (by omega)⟩
  stop := fun P' H' L => by
    obtain ⟨vs, h1, h2⟩ := (L _ _ h).tupI
    exact ⟨vs, h1, by rw [enumD_length]; exact h2.length⟩
  yld := fun P' H' i x H2 d L hd hy => by
    obtain ⟨vs, h1, h2⟩ := (L _ _ h).tupI
    obtain ⟨T, y, rfl, hT, rfl, hy⟩ := hy
    rw [enumD_get] at hd
    cases hx : ds[i]? with
    | none => rw [hx] at hd; cases hd
    | some d' =>
      rw [hx] at hd
      cases hd
      obtain ⟨v, h3, h4⟩ := h2.get hx
      have := hy vs h1
      rw [h3] at this
      cases this
      rw [Nat.zero_add]
      exact den_pair hT (.int _) h4
end
def enumSrc (f : Sem0) : Cls := fun ρ => (f ρ).bind fun p => (seqD p.1).bind fun xs => some (enumD 0 xs, p.2)
section
variable {X : Cx} {tg e : Expr} {T κ : List Nat} {f : Sem0} {p pos tpos : Pos} {elts : List Expr} {kk : Nat}
theorem vi_enum (hg : Gl X "enumerate") (hm : X.mg "enumerate" = none) (he : PE X e (tV (gd X) T κ 0 f)) (hs : starEach [e] X.env = [(false, eval e X.env)] := by rfl) (hs2 : starEach [e] X.env = (false, eval e X.env) :: starEach [] X.env := by rfl) : PI X (.Tuple elts kk tpos) (.Call (.Name "enumerate" p) [e] [] pos) (tVI (gd X) T κ (enumSrc f)) :=
  (pi_enumA hg hm (pa_cons he pa_nil hs2) hs).imp fun σ H Q ⟨P, ρ, Fs, ds, ρ', R, e, q⟩ => by
    unfold enumSrc at e
    obtain ⟨⟨d, ρ1⟩, e1, e⟩ := Option.bind_eq_some_iff.mp e
    obtain ⟨xs, e2, e⟩ := Option.bind_eq_some_iff.mp e
    cases e
    refine ⟨P, ρ, Fs, d, _, R, e1, fun v H' P' F Fs' R' o nd fr E st gr => ?_⟩
    have dn := o.1
    cases d with
    | lst ys =>
      cases e2
      cases dn with
      | lst h r =>
        have dn : Den (gd X) P' H' _ _ := .lst h r
        obtain ⟨vs, h1, h2⟩ := dn.lstI
        exact ⟨_, vs, rfl, .inl ⟨h1, q _ H' P' Fs' R' (walkE dn) E st gr⟩⟩
    | tup ys =>
      cases e2
      cases dn with
      | tup h r =>
        have dn : Den (gd X) P' H' _ _ := .tup h r
        obtain ⟨vs, h1, h2⟩ := dn.tupI
        exact ⟨_, vs, rfl, .inr ⟨h1, q _ H' P' Fs' R' (walkET dn) E st gr⟩⟩
    | _ => cases e2
end
/-! ### zip -/
def zipD : List D → List D → List D
  | x :: xs, y :: ys => .tup [x, y] :: zipD xs ys
  | _, _ => []
theorem zipD_length : ∀ (xs ys : List D), (zipD xs ys).length = min xs.length ys.length
  | [], _ => by simp [zipD]
  | _ :: _, [] => by simp [zipD]
  | x :: xs, y :: ys => by unfold zipD; rw [List.length_cons, zipD_length, List.length_cons, List.length_cons]; omega
theorem zipD_get : ∀ (xs ys : List D) (i : Nat) (d : D), (zipD xs ys)[i]? = some d → ∃ x y, xs[i]? = some x ∧ ys[i]? = some y ∧ d = .tup [x, y]
  | [], _, _, _, h => by simp [zipD] at h
  | _ :: _, [], _, _, h => by simp [zipD] at h
  | x :: xs, y :: ys, 0, d, h => by
    unfold zipD at h
    simp at h
    exact ⟨x, y, rfl, rfl, h.symm⟩
  | x :: xs, y :: ys, i + 1, d, h => by
    unfold zipD at h
    obtain ⟨a, b, c⟩ := zipD_get xs ys i d (by simpa using h)
    exact ⟨a, b, by simpa using c⟩
section
variable {G : Wd} {P P' : Addr → Prop} {H H' : Hp}
theorem walkZ {a b : Addr} {xs ys : List D} (h : Den G P H (.ref a) (.lst xs)) (h' : Den G P H (.ref b) (.lst ys)) : WalkD G (Itz G.K a b) (zipD xs ys) P H where
  go := fun P' H' i L hi => by
    rw [zipD_length] at hi
    obtain ⟨vs, h1, h2⟩ := (L _ _ h).lstI
    obtain ⟨ws, h3, h4⟩ := (L _ _ h').lstI
    have l1 := h2.length
    have l2 := h4.length
    exact ⟨vs, ws, vs[i], ws[i], h1, h3, List.getElem?_eq_getElem (by omega), List.getElem?_eq_getElem (by omega)⟩
  stop := fun P' H' L => by
    obtain ⟨vs, h1, h2⟩ := (L _ _ h).lstI
    obtain ⟨ws, h3, h4⟩ := (L _ _ h').lstI
    have l1 := h2.length
    have l2 := h4.length
    exact ⟨vs, ws, h1, h3, by rw [zipD_length]; omega⟩
  yld := fun P' H' i x H2 d L hd hy => by
    obtain ⟨vs, h1, h2⟩ := (L _ _ h).lstI
    obtain ⟨ws, h3, h4⟩ := (L _ _ h').lstI
    obtain ⟨T, u, v, rfl, hT, rfl, hu, hv⟩ := hy
    obtain ⟨dx, dy, e1, e2, rfl⟩ := zipD_get _ _ _ _ hd
    obtain ⟨w1, a1, a2⟩ := h2.get e1
    obtain ⟨w2, b1, b2⟩ := h4.get e2
    have z1 := hu vs h1
    have z2 := hv ws h3
    rw [a1] at z1
    rw [b1] at z2
    cases z1
    cases z2
    exact den_pair hT a2 b2
theorem walkZT {a b : Addr} {xs ys : List D} (h : Den G P H (.ref a) (.tup xs)) (h' : Den G P H (.ref b) (.tup ys)) : WalkD G (RZ.ItzT G.K a b) (zipD xs ys) P H where
  go := fun P' H' i L hi => by
    rw [zipD_length] at hi
    obtain ⟨vs, h1, h2⟩ := (L _ _ h).tupI
    obtain ⟨ws, h3, h4⟩ := (L _ _ h').tupI
    have l1 := h2.length
    have l2 := h4.length
    exact ⟨vs, ws, vs[i], ws[i], h1, h3, List.getElem?_eq_getElem (by omega), List.getElem?_eq_getElem (by omega)⟩
  stop := fun P' H' L => by
    obtain ⟨vs, h1, h2⟩ := (L _ _ h).tupI
    obtain ⟨ws, h3, h4⟩ := (L _ _ h').tupI
    have l1 := h2.length
    have l2 := h4.length
    exact ⟨vs, ws, h1, h3, by rw [zipD_length]; omega⟩
  yld := fun P' H' i x H2 d L hd hy => by
    obtain ⟨vs, h1, h2⟩ := (L _ _ h).tupI
    obtain ⟨ws, h3, h4⟩ := (L _ _ h').tupI
    obtain ⟨T, u, v, rfl, hT, rfl, hu, hv⟩ := hy
    obtain ⟨dx, dy, e1, e2, rfl⟩ := zipD_get _ _ _ _ hd
    obtain ⟨w1, a1, a2⟩ := h2.get e1
    obtain ⟨w2, b1, b2⟩ := h4.get e2
    have z1 := hu vs h1
    have z2 := hv ws h3
    rw [a1] at z1
    rw [b1] at z2
    cases z1
    cases z2
    exact den_pair hT a2 b2
end
def zipG : D → D → Option (List D)
  | .lst xs, .lst ys => some (zipD xs ys)
  | .tup xs, .tup ys => some (zipD xs ys)
  | _, _ => none
def zipSrc (f g : Sem0) : Cls := fun ρ => (f ρ).bind fun p => (g p.2).bind fun q => (zipG p.1 q.1).bind fun zs => some (zs, q.2)
section
variable {X : Cx} {tg e e2 : Expr} {T U κ : List Nat} {f g : Sem0} {p pos tpos : Pos} {elts : List Expr} {kk : Nat}
theorem vi_zip (hg : Gl X "zip") (hm : X.mg "zip" = none) (he : PE X e (tV (gd X) T κ 0 f)) (he2 : PE X e2 (tV (gd X) U κ 0 g)) (hs : starEach [e, e2] X.env = (false, eval e X.env) :: starEach [e2] X.env := by rfl) (hpl : (backTo pos (starEach [e2] X.env)).any (·.1) = false := by rfl) (hs2 : starEach [e2] X.env = (false, eval e2 X.env) :: starEach [] X.env := by rfl) :
    PI X (.Tuple elts kk tpos) (.Call (.Name "zip" p) [e, e2] [] pos) (tVI (gd X) (T ++ U) κ (zipSrc f g)) :=
  (RZ.pi_zipA hg hm (pa_cons he (pa_cons he2 pa_nil hs2) hs) hs hpl).imp fun σ H Q ⟨P, ρ, Fs, ds, ρ', R, e, q⟩ => by
    unfold zipSrc at e
    obtain ⟨⟨d, ρ1⟩, e1, e⟩ := Option.bind_eq_some_iff.mp e
    obtain ⟨⟨d', ρ2⟩, e2, e⟩ := Option.bind_eq_some_iff.mp e
    obtain ⟨zs, e3, e⟩ := Option.bind_eq_some_iff.mp e
    cases e
    refine ⟨P, ρ, Fs, d, _, R, e1, fun v H1 P1 F1 Fs1 R1 o1 n1 fr1 E1 st1 gr1 => ⟨P1, ρ1, Fs1, d', _, R1, e2, fun v' H2 P2 F2 Fs2 R2 o2 n2 fr2 E2 st2 gr2 => ?_⟩⟩
    have s := Stp.trans R ⟨E1, st1, gr1⟩ ⟨E2, st2, gr2⟩
    have dn := o1.1.ext E2
    have dn2 := o2.1
    cases d <;> cases d' <;> try cases e3
    · cases dn with
      | tup h r =>
        cases dn2 with
        | tup h' r' =>
          have dn : Den (gd X) P2 H2 _ _ := .tup h r
          have dn2 : Den (gd X) P2 H2 _ _ := .tup h' r'
          obtain ⟨vs, a1, a2⟩ := dn.tupI
          obtain ⟨ws, b1, b2⟩ := dn2.tupI
          exact ⟨_, _, vs, ws, rfl, .inr ⟨a1, b1, q _ H2 P2 Fs2 R2 (walkZT dn dn2) s.ext s.st s.gr⟩⟩
    · cases dn with
      | lst h r =>
        cases dn2 with
        | lst h' r' =>
          have dn : Den (gd X) P2 H2 _ _ := .lst h r
          have dn2 : Den (gd X) P2 H2 _ _ := .lst h' r'
          obtain ⟨vs, a1, a2⟩ := dn.lstI
          obtain ⟨ws, b1, b2⟩ := dn2.lstI
          exact ⟨_, _, vs, ws, rfl, .inl ⟨a1, b1, q _ H2 P2 Fs2 R2 (walkZ dn dn2) s.ext s.st s.gr⟩⟩
end
/-! ### reversed -/
section
variable {G : Wd} {P P' : Addr → Prop} {H H' : Hp}
theorem rev_get {ds : List D} {i : Nat} {d : D} (h : ds.reverse[i]? = some d) : i < ds.length ∧ ds[ds.length - 1 - i]? = some d := by
  obtain ⟨hl, _⟩ := List.getElem?_eq_some_iff.mp h
  rw [List.length_reverse] at hl
  exact ⟨hl, by rw [List.getElem?_reverse hl] at h; exact h⟩
theorem walkV {a : Addr} {ds : List D} (h : Den G P H (.ref a) (.lst ds)) : WalkD G (Itv G.K a ds.length) ds.reverse P H where
  go := fun P' H' i L hi => by
    rw [List.length_reverse] at hi
    obtain ⟨vs, h1, h2⟩ := (L _ _ h).lstI
    have := h2.length
    exact ⟨hi, vs, vs[ds.length - 1 - i], h1, List.getElem?_eq_getElem (by omega)⟩
  stop := fun P' H' L => by
    show ds.length ≤ _
    rw [List.length_reverse]
    exact Nat.le_refl _
  yld := fun P' H' i x H2 d L hd hy => by
    obtain ⟨vs, h1, h2⟩ := (L _ _ h).lstI
    obtain ⟨rfl, hy⟩ := hy
    obtain ⟨v, h3, h4⟩ := h2.get (rev_get hd).2
    have := hy vs h1
    rw [h3] at this
    cases this
    exact ⟨fun _ _ z => z, h4⟩
theorem walkVT {a : Addr} {ds : List D} (h : Den G P H (.ref a) (.tup ds)) : WalkD G (RT.ItvT G.K a ds.length) ds.reverse P H where
  go := fun P' H' i L hi => by
    rw [List.length_reverse] at hi
    obtain ⟨vs, h1, h2⟩ := (L _ _ h).tupI
    have := h2.length
    exact ⟨hi, vs, vs[ds.length - 1 - i], h1, List.getElem?_eq_getElem (by omega)⟩
  stop := fun P' H' L => by
    show ds.length ≤ _
    rw [List.length_reverse]
    exact Nat.le_refl _
  yld := fun P' H' i x H2 d L hd hy => by
    obtain ⟨vs, h1, h2⟩ := (L _ _ h).tupI
    obtain ⟨rfl, hy⟩ := hy
    obtain ⟨v, h3, h4⟩ := h2.get (rev_get hd).2
    have := hy vs h1
    rw [h3] at this
    cases this
    exact ⟨fun _ _ z => z, h4⟩
end
def revSrc (f : Sem0) : Cls := fun ρ => (f ρ).bind fun p => (seqD p.1).bind fun xs => some (xs.reverse, p.2)
section
variable {X : Cx} {tg e : Expr} {T κ : List Nat} {f : Sem0} {p pos : Pos}
theorem vi_rev (hg : Gl X "reversed") (hm : X.mg "reversed" = none) (he : PE X e (tV (gd X) T κ 0 f)) (hs : starEach [e] X.env = (false, eval e X.env) :: starEach [] X.env := by rfl) : PI X tg (.Call (.Name "reversed" p) [e] [] pos) (tVI (gd X) T κ (revSrc f)) :=
  (RT.pi_revA hg hm he hs).imp fun σ H Q ⟨P, ρ, Fs, ds, ρ', R, e, q⟩ => by
    unfold revSrc at e
    obtain ⟨⟨d, ρ1⟩, e1, e⟩ := Option.bind_eq_some_iff.mp e
    obtain ⟨xs, e2, e⟩ := Option.bind_eq_some_iff.mp e
    cases e
    refine ⟨P, ρ, Fs, d, _, R, e1, fun v H' P' F Fs' R' o nd fr E st gr => ?_⟩
    have dn := o.1
    cases d with
    | lst ys =>
      cases e2
      cases dn with
      | lst h r =>
        have dn : Den (gd X) P' H' _ _ := .lst h r
        obtain ⟨vs, h1, h2⟩ := dn.lstI
        exact ⟨_, vs, rfl, .inl ⟨h1, by rw [h2.length]; exact q _ H' P' Fs' R' (walkV dn) E st gr⟩⟩
    | tup ys =>
      cases e2
      cases dn with
      | tup h r =>
        have dn : Den (gd X) P' H' _ _ := .tup h r
        obtain ⟨vs, h1, h2⟩ := dn.tupI
        exact ⟨_, vs, rfl, .inr ⟨h1, by rw [h2.length]; exact q _ H' P' Fs' R' (walkVT dn) E st gr⟩⟩
    | _ => cases e2
end
end VS

set_option Elab.async false
set_option linter.all false
set_option maxRecDepth 100000
/-! Operations on data. -/
namespace VS
open PySem PySem.Spec PyProof.Rows L2

namespace D
/-- no dict within, at most so deep -/
def fit : Nat → D → Bool
  | 0, _ => false
  | n + 1, d => match d with
    | .und => false
    | .dct .. => false
    | .tup xs => xs.all (fit n)
    | .lst xs => xs.all (fit n)
    | _ => true
mutual
def py : D → PyData
  | und => .none
  | non => .none
  | bl b => .bool b
  | int i => .int i
  | str s => .str s
  | tup xs => .tuple (pyL xs)
  | lst xs => .list (pyL xs)
  | dct .. => .none
def pyL : List D → List PyData
  | [] => []
  | x :: xs => py x :: pyL xs
end
theorem pyL_map : ∀ xs : List D, pyL xs = xs.map py
  | [] => by simp [pyL]
  | x :: xs => by rw [pyL, pyL_map xs]; rfl
mutual
/-- == -/
def eqv : D → D → Bool
  | non, non => true
  | bl a, bl b => a == b
  | bl a, int j => decide ((if a then 1 else 0) = j)
  | int i, bl b => decide (i = (if b then 1 else 0))
  | int i, int j => decide (i = j)
  | str x, str y => decide (x = y)
  | lst xs, lst ys => eqvL xs ys
  | tup xs, tup ys => eqvL xs ys
  | _, _ => false
def eqvL : List D → List D → Bool
  | [], [] => true
  | x :: xs, y :: ys => eqv x y && eqvL xs ys
  | _, _ => false
end
mutual
/-- < of data that are alike -/
def lt : D → D → Bool
  | bl a, bl b => !a && b
  | int a, int b => decide (a < b)
  | str a, str b => decide (a.cps.toList < b.cps.toList)
  | tup xs, tup ys => ltL xs ys
  | lst xs, lst ys => ltL xs ys
  | _, _ => false
def ltL : List D → List D → Bool
  | [], [] => false
  | [], _ :: _ => true
  | _ :: _, [] => false
  | x :: xs, y :: ys => if eqv x y then ltL xs ys else lt x y
end
mutual
/-- they can be compared, place by place -/
def alk : D → D → Bool
  | non, non => true
  | bl _, bl _ => true
  | int _, int _ => true
  | str _, str _ => true
  | tup xs, tup ys => alkL xs ys
  | lst xs, lst ys => alkL xs ys
  | _, _ => false
def alkL : List D → List D → Bool
  | x :: xs, y :: ys => alk x y && alkL xs ys
  | [], _ => true
  | _ :: _, [] => true
end
theorem fitL_cons {n : Nat} {x : D} {xs : List D} (h : (x :: xs).all (fit n) = true) : fit n x = true ∧ xs.all (fit n) = true := by
  rw [List.all_cons, Bool.and_eq_true] at h; exact h
mutual
theorem py_plain : ∀ (n : Nat) (d : D), fit n d = true → (py d).plain = true ∧ (py d).depth ≤ n
  | 0, _, h => by cases h
  | n + 1, und, h => by cases h
  | n + 1, non, h => ⟨rfl, by simp [py, PyData.depth]⟩
  | n + 1, bl _, h => ⟨rfl, by simp [py, PyData.depth]⟩
  | n + 1, int _, h => ⟨rfl, by simp [py, PyData.depth]⟩
  | n + 1, str _, h => ⟨rfl, by simp [py, PyData.depth]⟩
  | n + 1, tup xs, h => by
    obtain ⟨a, b⟩ := py_plainL n xs h
    refine ⟨by rw [py, PyData.plain]; exact a, ?_⟩
    rw [py, PyData.depth]; omega
  | n + 1, lst xs, h => by
    obtain ⟨a, b⟩ := py_plainL n xs h
    refine ⟨by rw [py, PyData.plain]; exact a, ?_⟩
    rw [py, PyData.depth]; omega
  | n + 1, dct .., h => by cases h
theorem py_plainL : ∀ (n : Nat) (xs : List D), xs.all (fit n) = true → PyData.plainAll (pyL xs) = true ∧ PyData.depthAll (pyL xs) ≤ n
  | n, [], _ => ⟨rfl, by simp [pyL, PyData.depthAll]⟩
  | n, x :: xs, h => by
    obtain ⟨h1, h2⟩ := fitL_cons h
    obtain ⟨a, b⟩ := py_plain n x h1
    obtain ⟨c, d⟩ := py_plainL n xs h2
    refine ⟨by rw [pyL, PyData.plainAll, a, c]; rfl, ?_⟩
    rw [pyL, PyData.depthAll]; omega
end
mutual
theorem py_eqv : ∀ (n : Nat) (a b : D), fit n a = true → fit n b = true → PyData.eqv (py a) (py b) = eqv a b
  | 0, _, _, h, _ => by cases h
  | n + 1, a, b, ha, hb => by
    cases a with
    | und => cases ha
    | dct => cases ha
    | tup xs =>
      cases b with
      | tup ys => rw [py, py, PyData.eqv, eqv]; exact py_eqvL n xs ys ha hb
      | und => cases hb
      | dct => cases hb
      | _ => simp [py, PyData.eqv, eqv]
    | lst xs =>
      cases b with
      | lst ys => rw [py, py, PyData.eqv, eqv]; exact py_eqvL n xs ys ha hb
      | und => cases hb
      | dct => cases hb
      | _ => simp [py, PyData.eqv, eqv]
    | _ =>
      cases b with
      | und => cases hb
      | dct => cases hb
      | _ => simp [py, PyData.eqv, eqv, Bool.beq_eq_decide_eq]
theorem py_eqvL : ∀ (n : Nat) (xs ys : List D), xs.all (fit n) = true → ys.all (fit n) = true → PyData.eqvAll (pyL xs) (pyL ys) = eqvL xs ys
  | n, [], [], _, _ => by simp [pyL, PyData.eqvAll, eqvL]
  | n, [], y :: ys, _, _ => by simp [pyL, PyData.eqvAll, eqvL]
  | n, x :: xs, [], _, _ => by simp [pyL, PyData.eqvAll, eqvL]
  | n, x :: xs, y :: ys, hx, hy => by
    obtain ⟨h1, h2⟩ := fitL_cons hx
    obtain ⟨k1, k2⟩ := fitL_cons hy
    simp only [pyL, PyData.eqvAll, eqvL]
    rw [py_eqv n x y h1 k1, py_eqvL n xs ys h2 k2]
end
mutual
theorem py_alk : ∀ (n : Nat) (a b : D), fit n a = true → fit n b = true → PySem.W.alike (py a) (py b) = alk a b
  | 0, _, _, h, _ => by cases h
  | n + 1, a, b, ha, hb => by
    cases a with
    | und => cases ha
    | dct => cases ha
    | tup xs =>
      cases b with
      | tup ys => rw [py, py, PySem.W.alike, alk]; exact py_alkL n xs ys ha hb
      | und => cases hb
      | dct => cases hb
      | _ => simp [py, PySem.W.alike, alk]
    | lst xs =>
      cases b with
      | lst ys => rw [py, py, PySem.W.alike, alk]; exact py_alkL n xs ys ha hb
      | und => cases hb
      | dct => cases hb
      | _ => simp [py, PySem.W.alike, alk]
    | _ =>
      cases b with
      | und => cases hb
      | dct => cases hb
      | _ => simp [py, PySem.W.alike, alk]
theorem py_alkL : ∀ (n : Nat) (xs ys : List D), xs.all (fit n) = true → ys.all (fit n) = true → PySem.W.alikeAll (pyL xs) (pyL ys) = alkL xs ys
  | n, [], ys, _, _ => by cases ys <;> simp [pyL, PySem.W.alikeAll, alkL]
  | n, x :: xs, [], _, _ => by simp [pyL, PySem.W.alikeAll, alkL]
  | n, x :: xs, y :: ys, hx, hy => by
    obtain ⟨h1, h2⟩ := fitL_cons hx
    obtain ⟨k1, k2⟩ := fitL_cons hy
    simp only [pyL, PySem.W.alikeAll, alkL]
    rw [py_alk n x y h1 k1, py_alkL n xs ys h2 k2]
end
mutual
theorem py_lt : ∀ (n : Nat) (a b : D), fit n a = true → fit n b = true → alk a b = true → PySem.W.dataLt (py a) (py b) = lt a b
  | 0, _, _, h, _, _ => by cases h
  | n + 1, a, b, ha, hb, al => by
    cases a with
    | und => cases ha
    | dct => cases ha
    | tup xs =>
      cases b with
      | tup ys =>
        rw [py, py, PySem.W.dataLt_tuple, lt]
        exact py_ltL n xs ys ha hb (by simpa [alk] using al)
      | _ => simp [alk] at al
    | lst xs =>
      cases b with
      | lst ys =>
        rw [py, py, PySem.W.dataLt_list, lt]
        exact py_ltL n xs ys ha hb (by simpa [alk] using al)
      | _ => simp [alk] at al
    | non =>
      cases b with
      | non => simp [py, lt, PySem.W.dataLt, PySem.W.keyToks, PyProof.Rows.lexLt]
      | _ => simp [alk] at al
    | bl x =>
      cases b with
      | bl y =>
        rw [py, py, PySem.W.dataLt_bool, lt]
        cases x <;> cases y <;> rfl
      | _ => simp [alk] at al
    | int x =>
      cases b with
      | int y => rw [py, py, PySem.W.dataLt_int, lt]
      | _ => simp [alk] at al
    | str x =>
      cases b with
      | str y => rw [py, py, PySem.W.dataLt_str, lt]
      | _ => simp [alk] at al
theorem py_ltL : ∀ (n : Nat) (xs ys : List D), xs.all (fit n) = true → ys.all (fit n) = true → alkL xs ys = true → PySem.W.rowLt (pyL xs) (pyL ys) = ltL xs ys
  | n, [], [], _, _, _ => by simp [pyL, ltL, PySem.W.rowLt, PySem.W.keyToksAll]; first | rfl | decide
  | n, [], y :: ys, _, _, _ => by
    simp only [pyL, ltL, PySem.W.rowLt, PySem.W.keyToksAll]
    rw [PySem.W.lex_atom (by simp)]
    first | rfl | decide
  | n, x :: xs, [], _, _, _ => by
    simp only [pyL, ltL, PySem.W.rowLt, PySem.W.keyToksAll]
    rw [PySem.W.lex_atom (by simp)]
    first | rfl | decide
  | n, x :: xs, y :: ys, hx, hy, al => by
    obtain ⟨h1, h2⟩ := fitL_cons hx
    obtain ⟨k1, k2⟩ := fitL_cons hy
    simp only [alkL, Bool.and_eq_true] at al
    have e := PySem.W.dataLt_cons (x := py x) (y := py y) (by rw [py_alk n x y h1 k1]; exact al.1) (pyL xs) (pyL ys)
    have e2 := py_ltL n xs ys h2 k2 al.2
    unfold PySem.W.rowLt at e2 ⊢
    simp only [pyL, ltL]
    rw [e, py_eqv n x y h1 k1, e2, py_lt n x y h1 k1 al.1]
end
end D
end VS

set_option Elab.async false
set_option linter.all false
set_option maxRecDepth 100000
/-! Rules of operations by data. -/
namespace VS
open PySem PySem.Spec PyProof.Rows L2
section
variable {G : Wd} {P P' : Addr → Prop} {H H' : Hp} {σ : L2.St} {ρ : List D} {κ : List Nat} {Fs : Nat → List Addr} {o oa ob oc : Od} {v : V} {d : D} {F : List Addr} {k : Nat}
theorem OdAt.np (R : Rep G P H σ ρ κ Fs) (h : OdAt G P H σ Fs o v d F) : ∀ a ∈ F, ¬ P a := fun a m => by
  have h2 := h.2
  cases ha : o.al with
  | some i => rw [ha] at h2; obtain ⟨rfl, _⟩ := h2; exact R.np i a m
  | none => rw [ha] at h2; exact (h2 a m).1
/-- an operand read -/
theorem OdAt.view (R : Rep G P H σ ρ κ Fs) (h : OdAt G P H σ Fs o v d F) : Den G (fun a => P a ∨ a ∈ F) H v d := h.1.view (h.np R)
theorem Den.wide (h : Den G P H v d) (hp : ∀ a, P a → P' a) : Den G P' H v d := Den.rec (motive_1 := fun v d _ => Den G P' H v d) (motive_2 := fun vs ds _ => DenL G P' H vs ds)
  .non .bl .int .str (fun h _ r => .tup h r) (fun h _ r => .lst (h.imp (fun z => ⟨hp _ z.1, z.2⟩) id) r) (fun p h k _ _ r q => .dct (hp _ p) h k r q) .nil (fun _ _ r q => .cons r q) h
mutual
theorem Den.dp : ∀ {n : Nat} {v : V} {d : D}, d.fit n = true → Den G P H v d → Dp G.K H v d.py
  | 0, _, _, h, _ => by cases h
  | n + 1, _, _, _, .non => by rw [D.py]; exact .non
  | n + 1, _, _, _, .bl b => by rw [D.py]; exact .bl b
  | n + 1, _, _, _, .int i => by rw [D.py]; exact .int i
  | n + 1, _, _, _, .str x => by rw [D.py]; exact .str x
  | n + 1, _, _, h, .tup e r => by rw [D.py]; exact .tup (.inl (.inl e)) (DenL.dp (n := n) h r)
  | n + 1, _, _, h, .lst e r => by rw [D.py]; exact .lst e.sq (DenL.dp (n := n) h r)
  | n + 1, _, _, h, .dct .. => by cases h
theorem DenL.dp : ∀ {n : Nat} {vs : List V} {ds : List D}, ds.all (D.fit n) = true → DenL G P H vs ds → DpAll G.K H vs (D.pyL ds)
  | _, _, _, _, .nil => by rw [D.pyL]; exact .nil
  | n, _, _, h, .cons e r => by
    obtain ⟨h1, h2⟩ := D.fitL_cons h
    rw [D.pyL]
    exact .cons (Den.dp h1 e) (DenL.dp h2 r)
end
theorem OwnK.kids {ds : List D} (h : OwnK G P H k v (.lst ds) F) (hk : k ≤ 1) : ∃ a vs, v = .ref a ∧ SqL G.K H a vs ∧ DenL G P H vs ds := by
  cases k with
  | zero =>
    cases h.1 with
    | lst e r => exact ⟨_, _, rfl, e.sq, r⟩
  | succ k =>
    have : k = 0 := by omega
    subst this
    obtain ⟨a, vs, e, h1, h2, _⟩ := h.of1
    exact ⟨a, vs, e, .inl (.inl h1), h2⟩
theorem OwnK.tupI {ds : List D} (h : OwnK G P H k v (.tup ds) F) : ∃ a vs, v = .ref a ∧ SqT G.K H a vs ∧ DenL G P H vs ds := by
  cases (h.of_flat rfl).1 with
  | tup e r => exact ⟨_, _, rfl, .inl (.inl e), r⟩
theorem OwnK.strI {x : Str} (h : OwnK G P H k v (.str x) F) : v = .str x := by
  cases (h.of_flat rfl).1
  rfl
theorem OwnK.nonI (h : OwnK G P H k v .non F) : v = .non := by
  cases (h.of_flat rfl).1
  rfl
theorem keep_upd {p : Addr} {u : HO} (hp : H p = none) : ∀ a o, H a = some o → upd H p u a = some o := fun a o e => by
  rw [upd_ne (ne_of_none e hp)]
  exact e
theorem mk_lst {p : Addr} {xs : List V} {ds : List D} (hp : H p = none) (h : DenL G P H xs ds) : OwnK G P (upd H p (.lst xs)) 1 (.ref p) (.lst ds) [p] := OwnK.lst1 upd_same (h.ext (Ext.new (keep_upd hp)))
theorem mk_tup {p : Addr} {xs : List V} {ds : List D} (hp : H p = none) (h : DenL G P H xs ds) : OwnK G P (upd H p (.tup xs)) k (.ref p) (.tup ds) [] := OwnK.flat (F := []) (.tup upd_same (h.ext (Ext.new (keep_upd hp)))) rfl
/-- a flat end -/
theorem fin_flat {Q : VK} {S : List Addr} (q : ∀ v H' F, OwnK G P H' k v d F → F.Nodup → (∀ a ∈ F, H a = none ∨ a ∈ S) → (∀ a o, H a = some o → H' a = some o) → Q v H') (hd : Den G P H v d) (hf : d.flat = true) : Q v H :=
  q v H [] (OwnK.flat (F := []) hd hf) List.nodup_nil (fun a m => by cases m) fun _ _ z => z
theorem fin_lst {Q : VK} {S : List Addr} {p : Addr} {xs : List V} {ds : List D} (q : ∀ v H' F, OwnK G P H' 1 v (.lst ds) F → F.Nodup → (∀ a ∈ F, H a = none ∨ a ∈ S) → (∀ a o, H a = some o → H' a = some o) → Q v H') (hp : H p = none) (h : DenL G P H xs ds) : Q (.ref p) (upd H p (.lst xs)) :=
  q _ _ [p] (mk_lst hp h) (by simp) (fun a m => by rw [List.mem_singleton] at m; subst m; exact .inl hp) (keep_upd hp)
theorem fin_tup {Q : VK} {S : List Addr} {p : Addr} {xs : List V} {ds : List D} (q : ∀ v H' F, OwnK G P H' k v (.tup ds) F → F.Nodup → (∀ a ∈ F, H a = none ∨ a ∈ S) → (∀ a o, H a = some o → H' a = some o) → Q v H') (hp : H p = none) (h : DenL G P H xs ds) : Q (.ref p) (upd H p (.tup xs)) :=
  q _ _ [] (mk_tup hp h) List.nodup_nil (fun a m => by cases m) (keep_upd hp)
/-! ### ints -/
def i2 (c : Int → Int → Bool) (f : Int → Int → D) : List D → Option D
  | [.int i, .int j] => if c i j = true then some (f i j) else none
  | _ => none
theorem O_i2 {C : Int → Int → Prop} {c : Int → Int → Bool} {f : Int → Int → D} {gv : Int → Int → V} (hc : ∀ i j, c i j = true → C i j) (hf : ∀ i j P H, Den G P H (gv i j) (f i j)) (hl : ∀ i j, (f i j).flat = true) : OpS G [oa, ob] k (i2 c f) (r2 (rI C gv)) := by
  intro κ P H σ ρ Fs vs ds Gs d Q R qd nd e q
  cases qd with | cons r1 qd => cases qd with | cons r2 qd =>
  cases qd
  unfold i2 at e
  split at e
  · rename_i i j heq
    cases heq
    split at e
    · rename_i h
      cases e
      exact ⟨i, j, int_own r1.1, int_own r2.1, hc i j h, fin_flat q (hf i j P H) (hl i j)⟩
    · cases e
  · cases e
theorem O_i0 {f : Int → Int → D} {gv : Int → Int → V} (hf : ∀ i j P H, Den G P H (gv i j) (f i j)) (hl : ∀ i j, (f i j).flat = true) : OpS G [oa, ob] k (i2 (fun _ _ => true) f) (r2 (rI0 gv)) := by
  intro κ P H σ ρ Fs vs ds Gs d Q R qd nd e q
  cases qd with | cons r1 qd => cases qd with | cons r2 qd =>
  cases qd
  unfold i2 at e
  split at e
  · rename_i i j heq
    cases heq
    rw [if_pos rfl] at e
    cases e
    exact ⟨i, j, int_own r1.1, int_own r2.1, fin_flat q (hf i j P H) (hl i j)⟩
  · cases e
def subD := i2 (fun _ _ => true) fun i j => .int (i - j)
def ltD := i2 (fun _ _ => true) fun i j => .bl (decide (i < j))
def leD := i2 (fun _ _ => true) fun i j => .bl (decide (i ≤ j))
def gtD := i2 (fun _ _ => true) fun i j => .bl (decide (j < i))
def geD := i2 (fun _ _ => true) fun i j => .bl (decide (j ≤ i))
def fdivD := i2 (fun i j => decide (0 < j ∧ (j < 1073741824 ∨ j.natAbs.log2 < 9000))) fun i j => .int (i / j)
def modD := i2 (fun _ j => decide (0 < j)) fun i j => .int (i % j)
def powD := i2 (fun i j => decide (0 ≤ j ∧ j ≤ 1000000 ∧ i.natAbs < 2 ^ 64)) fun i j => .int (i ^ j.toNat)
theorem O_sub : OpS G [oa, ob] k subD (r2 (rI0 fun i j => .int (i - j))) := O_i0 (fun _ _ _ _ => .int _) fun _ _ => rfl
theorem O_lt : OpS G [oa, ob] k ltD (r2 (rI0 fun i j => .bl (decide (i < j)))) := O_i0 (fun _ _ _ _ => .bl _) fun _ _ => rfl
theorem O_le : OpS G [oa, ob] k leD (r2 (rI0 fun i j => .bl (decide (i ≤ j)))) := O_i0 (fun _ _ _ _ => .bl _) fun _ _ => rfl
theorem O_gt : OpS G [oa, ob] k gtD (r2 (rI0 fun i j => .bl (decide (j < i)))) := O_i0 (fun _ _ _ _ => .bl _) fun _ _ => rfl
theorem O_ge : OpS G [oa, ob] k geD (r2 (rI0 fun i j => .bl (decide (j ≤ i)))) := O_i0 (fun _ _ _ _ => .bl _) fun _ _ => rfl
theorem op_fdivA {X : Cx} : OpR X (binaryOp .FloorDiv) (rI (fun i j => 0 < j ∧ (j < 1073741824 ∨ j.natAbs.log2 < 9000)) fun i j => .int (i / j)) := by
  intro pins s σ H x y v u Q I rx ry ⟨i, j, e1, e2, ⟨h, c⟩, q⟩
  rcases c with c | c
  · exact op_fdiv pins s σ H x y v u Q I rx ry ⟨i, j, e1, e2, ⟨h, c⟩, q⟩
  · exact op_fdivW pins s σ H x y v u Q I rx ry ⟨i, j, e1, e2, ⟨h, c⟩, q⟩
theorem O_fdiv : OpS G [oa, ob] k fdivD (r2 (rI (fun i j => 0 < j ∧ (j < 1073741824 ∨ j.natAbs.log2 < 9000)) fun i j => .int (i / j))) := O_i2 (fun _ _ h => of_decide_eq_true h) (fun _ _ _ _ => .int _) fun _ _ => rfl
theorem O_mod : OpS G [oa, ob] k modD (r2 (rI (fun _ j => 0 < j) fun i j => .int (i % j))) := O_i2 (fun _ _ h => of_decide_eq_true h) (fun _ _ _ _ => .int _) fun _ _ => rfl
theorem O_pow : OpS G [oa, ob] k powD (r2 (rI CPow fun i j => .int (i ^ j.toNat))) := O_i2 (C := CPow) (fun i j h => show 0 ≤ j ∧ j ≤ 1000000 ∧ i.natAbs < 2 ^ 64 from of_decide_eq_true h) (fun _ _ _ _ => .int _) fun _ _ => rfl
def negD : List D → Option D
  | [.int i] => some (.int (-i))
  | _ => none
theorem O_neg : OpS G [oa] k negD (r1v (rU fun i => .int (-i))) := by
  intro κ P H σ ρ Fs vs ds Gs d Q R qd nd e q
  cases qd with | cons r1 qd =>
  cases qd
  unfold negD at e
  split at e
  · rename_i i heq
    cases heq
    cases e
    exact ⟨i, int_own r1.1, fin_flat q (.int _) rfl⟩
  · cases e
/-! ### a + b -/
def rCatL (K : PySem.W.Frag) : R2 := fun x y H Q => ∃ l b xs zs, x = .ref l ∧ y = .ref b ∧ SqL K H l xs ∧ SqL K H b zs ∧ xs.length + zs.length ≤ sizeLine ∧ ∀ p, H p = none → Q (.ref p) (upd H p (.lst (xs ++ zs)))
theorem op_catL {X : Cx} : OpR X (binaryOp .Add) (rCatL X.K) := by
  intro pins s σ H x y v u Q I rx ry ⟨l, b, xs, zs, e1, e2, hx, hy, hz, q⟩
  subst e1 e2
  cases rx
  cases ry
  obtain ⟨its, r, ⟨⟨c1, d1, t1, s1⟩, n1, h1, h2, _, h3⟩, _⟩ := I.list hx
  obtain ⟨its2, r2, ⟨⟨c2, d2, t2, s2⟩, n2, k1, k2, _, k3⟩, _⟩ := I.list hy
  simp only at h2 h3 k2 k3
  subst h2 h3 k2 k3
  have l1 := r.length
  have l2 := r2.length
  refine concat_meets ⟨_, h1, rfl⟩ ⟨_, k1, rfl⟩ noFill_list_add seq_list_add PySem.F.slot_list_add PySem.F.entry_list_add (PySem.F.args_list_add_2 _ _) (list_addW l b its.toArray its2.toArray n1 n2 d1 d2 s1 s2 (by simp only [List.size_toArray]; omega)) ⟨h1, k1, ?_⟩
  rw [List.append_toArray]
  exact ⟨.ref _, _, I.lnew (t' := s.toks) (r.append r2) (by rw [List.length_append]; omega), rfl, q _ I.fresh⟩
def rAdd (K : PySem.W.Frag) : R2 := fun x y H Q => rI0 (fun i j => .int (i + j)) x y H Q ∨ rCatL K x y H Q ∨ rCatA K x y H Q ∨ ∃ i j, x = .str i ∧ y = .str j ∧ i.length + j.length ≤ sizeLine ∧ Q (.str (i ++ j)) H
theorem op_addA {X : Cx} : OpR X (binaryOp .Add) (rAdd X.K) := by
  intro pins s σ H x y v u Q I rx ry h
  rcases h with h | h | h | h
  · exact op_add pins s σ H x y v u Q I rx ry h
  · exact op_catL pins s σ H x y v u Q I rx ry h
  · exact op_catA pins s σ H x y v u Q I rx ry h
  · exact op_add_str pins s σ H x y v u Q I rx ry h
def addD : List D → Option D
  | [.int i, .int j] => some (.int (i + j))
  | [.lst xs, .lst ys] => if xs.length + ys.length ≤ sizeLine then some (.lst (xs ++ ys)) else none
  | [.tup xs, .tup ys] => if xs.length + ys.length ≤ sizeLine then some (.tup (xs ++ ys)) else none
  | [.str x, .str y] => if x.length + y.length ≤ sizeLine then some (.str (x ++ y)) else none
  | _ => none
theorem O_add (ha : oa.k ≤ 1) (hb : ob.k ≤ 1) : OpS G [oa, ob] 1 addD (r2 (rAdd G.K)) := by
  intro κ P H σ ρ Fs vs ds Gs d Q R qd nd e q
  cases qd with | cons r1 qd => cases qd with | cons r2 qd =>
  cases qd
  unfold addD at e
  split at e
  · rename_i i j heq
    cases heq
    cases e
    exact .inl ⟨i, j, int_own r1.1, int_own r2.1, fin_flat q (.int _) rfl⟩
  · rename_i xs ys heq
    cases heq
    split at e
    · rename_i hz
      cases e
      obtain ⟨a, vs, rfl, a1, a2⟩ := r1.1.kids ha
      obtain ⟨b, ws, rfl, b1, b2⟩ := r2.1.kids hb
      exact .inr (.inl ⟨a, b, vs, ws, rfl, rfl, a1, b1, by rw [a2.length, b2.length]; exact hz, fun p hp => fin_lst q hp (a2.append b2)⟩)
    · cases e
  · rename_i xs ys heq
    cases heq
    split at e
    · rename_i hz
      cases e
      obtain ⟨a, vs, rfl, a1, a2⟩ := r1.1.tupI
      obtain ⟨b, ws, rfl, b1, b2⟩ := r2.1.tupI
      refine .inr (.inr (.inl ⟨a, b, vs, ws, rfl, rfl, a1, b1, by rw [a2.length, b2.length]; exact hz, fun h => ?_, fun h1 h2 => ?_, fun _ _ p hp => fin_tup q hp (a2.append b2)⟩))
      · subst h
        cases a2
        exact fin_flat q (r2.1.of_flat rfl).1 rfl
      · subst h2
        cases b2
        refine fin_flat q ?_ rfl
        rw [List.append_nil]
        exact (r1.1.of_flat rfl).1
    · cases e
  · rename_i x y heq
    cases heq
    split at e
    · rename_i hz
      cases e
      exact .inr (.inr (.inr ⟨x, y, r1.1.strI, r2.1.strI, hz, fin_flat q (.str _) rfl⟩))
    · cases e
  · cases e
end
end VS

set_option Elab.async false
set_option linter.all false
set_option maxRecDepth 100000
set_option maxHeartbeats 1000000
/-! Rules of operations by data, two. -/
namespace VS
open PySem PySem.Spec PyProof.Rows L2
/-! ### what the layer lacks: tuple * 0, tuple * 1, sum(tuple) -/
theorem tuple_mulSame (l : Addr) (items : Array Value) (n : Nat) (dd : Option Addr) (sl : Array (Option Value)) (x : Int) (u : Tok) (c0 : (decide (x < -(2 ^ 63)) || decide (x ≥ 2 ^ 63)) = false) (c1 : (items.isEmpty || x == 1) = true) :
    Meets (Builtin.«tuple.__mul__» ⟨[.ref l, .int x u], []⟩) (fun _ R s => s.heap.get? l = some { cls := .type "tuple", dict := dd, data := .seq items n, slots := sl } ∧ R (.ok (.ret (.ref l))) s) :=
  .of_wp fun prog w A R s h => by
    obtain ⟨hp, g, d, tk, os⟩ := s
    obtain ⟨hl, h⟩ := h
    have f1 := AutoSeq1.idx_int
    wp_walk using wpAny_loadPart' hl
    repeat (first
      | (refine wpAny_ite_false (decide_eq_false (by rw [c0]; exact Bool.false_ne_true)) ?_; wp_walk using wpAny_loadPart' hl)
      | (refine wpAny_ite_true (decide_eq_true (by rw [c1])) ?_; wp_walk using wpAny_loadPart' hl))
    exact ⟨_, rfl, h⟩
theorem tuple_mulNone (l : Addr) (items : Array Value) (n : Nat) (dd : Option Addr) (sl : Array (Option Value)) (x : Int) (u : Tok) (c0 : (decide (x < -(2 ^ 63)) || decide (x ≥ 2 ^ 63)) = false) (c1 : (items.isEmpty || x == 1) = false) (c2 : (decide (x ≤ 0) || items.isEmpty) = true) :
    Meets (Builtin.«tuple.__mul__» ⟨[.ref l, .int x u], []⟩) (fun _ R s => s.heap.get? l = some { cls := .type "tuple", dict := dd, data := .seq items n, slots := sl } ∧
      R (.ok (.ret (.ref s.heap.objs.size))) { s with heap := s.heap.push { cls := .type "tuple", data := .seq #[] } }) :=
  .of_wp fun prog w A R s h => by
    obtain ⟨hp, g, d, tk, os⟩ := s
    obtain ⟨hl, h⟩ := h
    have f1 := AutoSeq1.idx_int
    wp_walk using wpAny_loadPart' hl
    repeat (first
      | (refine wpAny_ite_false (decide_eq_false (by rw [c0]; exact Bool.false_ne_true)) ?_; wp_walk using wpAny_loadPart' hl)
      | (refine wpAny_ite_false (decide_eq_false (by rw [c1]; exact Bool.false_ne_true)) ?_; wp_walk using wpAny_loadPart' hl)
      | (refine wpAny_ite_true (decide_eq_true (by rw [c2])) ?_; wp_walk using wpAny_loadPart' hl))
    exact ⟨_, rfl, h⟩
def rRepA (K : PySem.W.Frag) : R2 := fun x y H Q => ∃ l k xs, x = .ref l ∧ y = .int k ∧ SqT K H l xs ∧ -1000000 ≤ k ∧ k ≤ 1000 ∧ xs.length ≤ 1000 ∧
  (xs = [] ∨ k = 1 → Q (.ref l) H) ∧ (xs ≠ [] → k ≤ 0 → ∀ p, H p = none → Q (.ref p) (upd H p (.tup []))) ∧ (xs ≠ [] → 2 ≤ k → ∀ p, H p = none → Q (.ref p) (upd H p (.tup (List.replicate k.toNat xs).flatten)))
theorem op_repA {X : Cx} : OpR X (binaryOp .Mult) (rRepA X.K) := by
  intro pins s σ H x y v u Q I rx ry ⟨l, k, xs, e1, e2, hT, b1, b2, hz, q0, q1, q2⟩
  subst e1 e2
  by_cases h2 : xs ≠ [] ∧ 2 ≤ k
  · exact op_repT pins s σ H _ _ v u Q I rx ry ⟨l, k, xs, rfl, rfl, hT, h2.1, h2.2, b2, hz, q2 h2.1 h2.2⟩
  · cases rx
    obtain ⟨t, rfl⟩ := ry
    obtain ⟨its, r, ⟨⟨cls, dd, data, sl⟩, ho, hc, n, hd⟩, hs⟩ := I.tuple hT
    simp only at hc hd
    subst hc hd
    have hle : its.length = xs.length := r.length.symm
    have c0 : (decide (k < -(2 ^ 63)) || decide (k ≥ 2 ^ 63)) = false := by
      rw [decide_eq_false (by omega), decide_eq_false (by omega)]
      rfl
    by_cases h0 : xs = [] ∨ k = 1
    · have c1 : (its.toArray.isEmpty || k == 1) = true := by
        rcases h0 with rfl | rfl
        · have : its = [] := List.eq_nil_of_length_eq_zero (by simpa using hle)
          subst this
          rfl
        · simp
      exact wpAny_binaryOp_repeat_ref (T := "tuple") (U := "int") (by decide) ⟨_, ho, rfl⟩ (fun s' => typeIs_int s' k t) noFill_tuple_mul F.fills_int_mul F.slot_int_rmul repeat_tuple F.slot_int_index.lookup
        (call_meets F.slot_int_rmul (typeIs_int s k t) F.entry_int_rmul (F.args_int_rmul_2 _ _) (int_rmul_tuple k t l its.toArray n dd sl)
          ⟨ho, rfl, ⟨_, ho, rfl⟩, call_meets F.slot_tuple_mul ⟨_, ho, rfl⟩ F.entry_tuple_mul (F.args_tuple_mul_2 _ _) (tuple_mulSame l its.toArray n dd sl k t c0 c1) ⟨ho, .ref l, H, I, rfl, q0 h0⟩⟩)
    · have hx : xs ≠ [] := fun e => h0 (.inl e)
      have hk : k ≤ 0 := by
        by_cases c : 2 ≤ k
        · exact absurd ⟨hx, c⟩ h2
        · have : k ≠ 1 := fun e => h0 (.inr e)
          omega
      have hi : its.toArray.isEmpty = false := by
        cases its with
        | nil => exact absurd (List.eq_nil_of_length_eq_zero (by simpa using hle.symm)) hx
        | cons a b => rfl
      have c1 : (its.toArray.isEmpty || k == 1) = false := by
        rw [hi, Bool.false_or]
        exact beq_eq_false_iff_ne.mpr (by omega)
      have c2 : (decide (k ≤ 0) || its.toArray.isEmpty) = true := by
        rw [decide_eq_true hk]
        rfl
      refine wpAny_binaryOp_repeat_ref (T := "tuple") (U := "int") (by decide) ⟨_, ho, rfl⟩ (fun s' => typeIs_int s' k t) noFill_tuple_mul F.fills_int_mul F.slot_int_rmul repeat_tuple F.slot_int_index.lookup
        (call_meets F.slot_int_rmul (typeIs_int s k t) F.entry_int_rmul (F.args_int_rmul_2 _ _) (int_rmul_tuple k t l its.toArray n dd sl)
          ⟨ho, rfl, ⟨_, ho, rfl⟩, call_meets F.slot_tuple_mul ⟨_, ho, rfl⟩ F.entry_tuple_mul (F.args_tuple_mul_2 _ _) (tuple_mulNone l its.toArray n dd sl k t c0 c1 c2) ⟨ho, ?_⟩⟩)
      exact ⟨.ref s.heap.objs.size, _, I.laid (t' := s.toks) (o := .tup []) (fun b ob q => Heap.get?_push_of_some _ q) (Nat.le_refl _) ⟨Nat.zero_le _, [], .nil, IsTup.new _ _⟩, rfl, q1 hx hk _ (I.hok.fresh (Nat.le_refl _))⟩
theorem sum_tupRaw {prog : Program} {w : World} {A : Around} {E : Value → Shared → Prop} {s : Shared} {l : Addr} {its : List Value} {ns : List Int} {Q : Value → Shared → Prop} (hh : A.handled = none) (hl : s.heap.IsTuple l its.toArray) (hi : IntsAre its ns)
    (h : ∀ h' tk t', (∀ b o, s.heap.get? b = some o → h'.get? b = some o) → Q (.int ns.sum t') { s with heap := h', toks := tk }) : wpAny (model prog w) A (call (.builtin "sum") [.ref l]) Q E s := by
  obtain ⟨xs, e⟩ := hi.allInts.items
  have hn : numsOf (intItems xs).toList = ns := by rw [← e]; exact hi.numsOf
  rw [nums_intItems] at hn
  rw [e] at hl
  refine call_sum_walkG (wpAny_pyIter_tuple hl ?_)
  have hlt : l < s.heap.objs.size := let ⟨_, ho, _⟩ := hl; Heap.lt_size ho
  refine ⟨_, _, _, _, _, _, numAt xs, rfl, Walks.tuple (A := A.in1) hh _ l (Nat.ne_of_lt hlt) (intItems xs), ⟨⟨_, Heap.get?_push_size _ rfl, rfl, rfl⟩, hl.at fun o e => Heap.get?_push_of_some _ e⟩, fun b hb => ?_, fun _ _ => intItems_at, fun h' tk t' hk => ?_⟩
  · show b < (s.heap.push _).objs.size
    rw [Heap.size_push]
    rcases (by simpa using hb : b = s.heap.objs.size ∨ b = l) with rfl | rfl
    · exact Nat.lt_succ_self _
    · exact Nat.lt_succ_of_lt hlt
  · have := h h' tk t' fun b o q => hk b o (fun hb => absurd (Heap.lt_size q) ((List.mem_singleton.mp hb) ▸ Nat.lt_irrefl _)) (Heap.get?_push_of_some _ q)
    have e2 : preSum (numAt xs) (intItems xs).size = ns.sum := by
      rw [preSum_eq, List.take_of_length_le (by simp [intItems]), hn]
    rw [e2]
    exact this
def rSumA (K : PySem.W.Frag) : List V → Hp → VK → Prop := fun vs H Q => ∃ (a : Addr) (ns : List Int), vs = [V.ref a] ∧ (SqL K H a (ns.map V.int) ∨ SqT K H a (ns.map V.int)) ∧ Q (.int ns.sum) H
theorem cr_sumA {X : Cx} (hc : X.calm = true) : CallR X (.builtin "sum") (rSumA X.K) := by
  intro pins s σ H vs us Q I r ⟨a, ns, e, hs, q⟩
  subst e
  rcases hs with hs | hs
  · exact cr_sum hc pins s σ H _ us Q I r ⟨a, ns, rfl, hs, q⟩
  · obtain ⟨its, rv, hl, _⟩ := I.tuple hs
    rw [Vals.ref1 r]
    exact sum_tupRaw (I.ok.hd hc) (show s.heap.IsTuple a its.toArray from hl) rv.ints fun h' tk t' hk => ⟨.int _, H, I.kept hk, ⟨_, rfl⟩, q⟩
section
variable {G : Wd} {P P' : Addr → Prop} {H H' : Hp} {σ : L2.St} {ρ : List D} {κ : List Nat} {Fs : Nat → List Addr} {o oa ob oc : Od} {v : V} {d : D} {F : List Addr} {k : Nat}
/-! ### a * b -/
def rMulA (K : PySem.W.Frag) : R2 := fun x y H Q => rI (fun i j => CMul i j ∨ CMulW i j) (fun i j => .int (i * j)) x y H Q ∨ rRepA K x y H Q
theorem op_mulA {X : Cx} : OpR X (binaryOp .Mult) (rMulA X.K) := by
  intro pins s σ H x y v u Q I rx ry h
  rcases h with ⟨i, j, e1, e2, c | c, q⟩ | h
  · exact op_mul pins s σ H x y v u Q I rx ry ⟨i, j, e1, e2, c, q⟩
  · exact op_mulW pins s σ H x y v u Q I rx ry ⟨i, j, e1, e2, c, q⟩
  · exact op_repA pins s σ H x y v u Q I rx ry h
def smI (i : Int) : Bool := decide (-(2 ^ 64) < i ∧ i < 2 ^ 64)
def mulD : List D → Option D
  | [.int i, .int j] => if (smI i || smI j || decide (i.natAbs.log2 + j.natAbs.log2 < 1000000)) = true then some (.int (i * j)) else none
  | [.tup xs, .int k] => if -1000000 ≤ k ∧ k ≤ 1000 ∧ xs.length ≤ 1000 then some (.tup (List.replicate k.toNat xs).flatten) else none
  | _ => none
theorem DenL.rep {vs : List V} {ds : List D} (h : DenL G P H vs ds) : ∀ n : Nat, DenL G P H (List.replicate n vs).flatten (List.replicate n ds).flatten
  | 0 => .nil
  | n + 1 => by
    rw [List.replicate_succ, List.replicate_succ, List.flatten_cons, List.flatten_cons]
    exact h.append (h.rep n)
theorem O_mul : OpS G [oa, ob] k mulD (r2 (rMulA G.K)) := by
  intro κ P H σ ρ Fs vs ds Gs d Q R qd nd e q
  cases qd with | cons r1 qd => cases qd with | cons r2 qd =>
  cases qd
  unfold mulD at e
  split at e
  · rename_i i j heq
    cases heq
    split at e
    · rename_i hc
      cases e
      refine .inl ⟨i, j, int_own r1.1, int_own r2.1, ?_, fin_flat q (.int _) rfl⟩
      simp only [Bool.or_eq_true, smI, decide_eq_true_eq] at hc
      rcases hc with (c | c) | c
      · exact .inl (.inl c)
      · exact .inl (.inr c)
      · exact .inr c
    · cases e
  · rename_i xs kk heq
    cases heq
    split at e
    · rename_i hz
      cases e
      obtain ⟨a, vs, rfl, a1, a2⟩ := r1.1.tupI
      have l := a2.length
      refine .inr ⟨a, kk, vs, rfl, int_own r2.1, a1, hz.1, hz.2.1, by omega, fun h => ?_, fun h1 h2 p hp => ?_, fun h1 h2 p hp => fin_tup q hp (a2.rep _)⟩
      · refine fin_flat q ?_ rfl
        have : (List.replicate kk.toNat xs).flatten = xs := by
          rcases h with rfl | rfl
          · cases a2
            simp
          · simp
        rw [this]
        exact (r1.1.of_flat rfl).1
      · have : kk.toNat = 0 := by omega
        rw [this] at q
        exact fin_tup q hp .nil
    · cases e
  · cases e
/-! ### == and != -/
def D.dep : Nat := 40
def rEqA (G : Wd) : R2 := fun x y H Q => ∃ P a b, Den G P H x a ∧ Den G P H y b ∧ a.fit D.dep = true ∧ b.fit D.dep = true ∧ Q (.bl (a.eqv b)) H
def rNeA (G : Wd) : R2 := fun x y H Q => ∃ P a b, Den G P H x a ∧ Den G P H y b ∧ a.fit D.dep = true ∧ b.fit D.dep = true ∧ Q (.bl (!a.eqv b)) H
theorem op_eqA {X : Cx} (hu : X.A.units + 64 < cLine) : OpR X (compareOp .Eq) (rEqA (gd X)) := by
  intro pins s σ H x y v u Q I rx ry ⟨P, a, b, ha, hb, fa, fb, q⟩
  obtain ⟨as, r1⟩ := Dp.reads I _ x v (ha.dp fa) rx
  obtain ⟨bs, r2⟩ := Dp.reads I _ y u (hb.dp fb) ry
  obtain ⟨p1, d1⟩ := D.py_plain _ a fa
  obtain ⟨p2, d2⟩ := D.py_plain _ b fb
  refine SeqAt.eq_plain r1 r2 p1 p2 (by unfold D.dep at d1; omega) ?_
  rw [D.py_eqv _ a b fa fb]
  exact ⟨.bl _, H, I, rfl, q⟩
theorem op_neA {X : Cx} (hu : X.A.units + 64 < cLine) : OpR X (compareOp .NotEq) (rNeA (gd X)) := by
  intro pins s σ H x y v u Q I rx ry ⟨P, a, b, ha, hb, fa, fb, q⟩
  obtain ⟨as, r1⟩ := Dp.reads I _ x v (ha.dp fa) rx
  obtain ⟨bs, r2⟩ := Dp.reads I _ y u (hb.dp fb) ry
  obtain ⟨p1, d1⟩ := D.py_plain _ a fa
  obtain ⟨p2, d2⟩ := D.py_plain _ b fb
  refine SeqAt.ne_plain r1 r2 p1 p2 (by unfold D.dep at d1; omega) ?_
  rw [D.py_eqv _ a b fa fb]
  exact ⟨.bl _, H, I, rfl, q⟩
def eqD : List D → Option D
  | [a, b] => if (a.fit D.dep && b.fit D.dep) = true then some (.bl (a.eqv b)) else none
  | _ => none
def neD : List D → Option D
  | [a, b] => if (a.fit D.dep && b.fit D.dep) = true then some (.bl (!a.eqv b)) else none
  | _ => none
theorem two_view {Fa Fb : List Addr} {x y : V} {a b : D} (R : Rep G P H σ ρ κ Fs) (r1 : OdAt G P H σ Fs oa x a Fa) (r2 : OdAt G P H σ Fs ob y b Fb) : ∃ P' : Addr → Prop, Den G P' H x a ∧ Den G P' H y b :=
  ⟨fun c => P c ∨ c ∈ Fa ∨ c ∈ Fb, (r1.view R).wide fun c h => h.imp id .inl, (r2.view R).wide fun c h => h.imp id .inr⟩
theorem O_eq : OpS G [oa, ob] k eqD (r2 (rEqA G)) := by
  intro κ P H σ ρ Fs vs ds Gs d Q R qd nd e q
  cases qd with | cons r1 qd => cases qd with | cons r2 qd =>
  cases qd
  simp only [eqD] at e
  split at e
  · rename_i h
    cases e
    rw [Bool.and_eq_true] at h
    obtain ⟨P', v1, v2⟩ := two_view R r1 r2
    exact ⟨P', _, _, v1, v2, h.1, h.2, fin_flat q (.bl _) rfl⟩
  · cases e
theorem O_ne : OpS G [oa, ob] k neD (r2 (rNeA G)) := by
  intro κ P H σ ρ Fs vs ds Gs d Q R qd nd e q
  cases qd with | cons r1 qd => cases qd with | cons r2 qd =>
  cases qd
  simp only [neD] at e
  split at e
  · rename_i h
    cases e
    rw [Bool.and_eq_true] at h
    obtain ⟨P', v1, v2⟩ := two_view R r1 r2
    exact ⟨P', _, _, v1, v2, h.1, h.2, fin_flat q (.bl _) rfl⟩
  · cases e
/-! ### x in xs -/
def memD (x : D) (ys : List D) : Bool := ys.any fun y => y.eqv x
def rInA (G : Wd) (neg : Bool) : R2 := fun x y H Q => ∃ P a b bs, Den G P H x a ∧ Den G P H y b ∧ seqD b = some bs ∧ a.fit D.dep = true ∧ bs.all (D.fit D.dep) = true ∧ Q (.bl (if neg then !memD a bs else memD a bs)) H
theorem any_py (n : Nat) (a : D) (fa : a.fit n = true) : ∀ ys : List D, ys.all (D.fit n) = true → (D.pyL ys).any (fun y => PyData.eqv y a.py) = memD a ys
  | [], _ => by simp [D.pyL, memD]
  | y :: ys, h => by
    obtain ⟨h1, h2⟩ := D.fitL_cons h
    have := any_py n a fa ys h2
    unfold memD at this ⊢
    rw [D.pyL, List.any_cons, List.any_cons, this, D.py_eqv n y a h1 fa]
theorem op_inA {X : Cx} (hu : X.A.units + 64 < cLine) : OpR X (compareOp .In) (rInA (gd X) false) := by
  intro pins s σ H x y v u Q I rx ry ⟨P, a, b, bs, ha, hb, hs, fa, fb, q⟩
  obtain ⟨as, r1⟩ := Dp.reads I _ x v (ha.dp fa) rx
  obtain ⟨p1, d1⟩ := D.py_plain _ a fa
  obtain ⟨p2, d2⟩ := D.py_plainL _ bs fb
  cases b <;> cases hs
  · have fb' : D.fit (D.dep + 1) (.tup bs) = true := fb
    obtain ⟨cs, r2⟩ := Dp.reads I _ y u (hb.dp fb') ry
    rw [D.py] at r2
    refine SeqAt.in_tuple_data r2 r1 p2 p1 (by unfold D.dep at d1; omega) ?_
    rw [any_py _ a fa bs fb]
    exact ⟨.bl _, H, I, rfl, q⟩
  · have fb' : D.fit (D.dep + 1) (.lst bs) = true := fb
    obtain ⟨cs, r2⟩ := Dp.reads I _ y u (hb.dp fb') ry
    rw [D.py] at r2
    refine SeqAt.in_list_data r2 r1 p2 p1 (by unfold D.dep at d1; omega) ?_
    rw [any_py _ a fa bs fb]
    exact ⟨.bl _, H, I, rfl, q⟩
theorem op_notInA {X : Cx} (hu : X.A.units + 64 < cLine) : OpR X (compareOp .NotIn) (rInA (gd X) true) := by
  intro pins s σ H x y v u Q I rx ry ⟨P, a, b, bs, ha, hb, hs, fa, fb, q⟩
  obtain ⟨as, r1⟩ := Dp.reads I _ x v (ha.dp fa) rx
  obtain ⟨p1, d1⟩ := D.py_plain _ a fa
  obtain ⟨p2, d2⟩ := D.py_plainL _ bs fb
  cases b <;> cases hs
  · have fb' : D.fit (D.dep + 1) (.tup bs) = true := fb
    obtain ⟨cs, r2⟩ := Dp.reads I _ y u (hb.dp fb') ry
    rw [D.py] at r2
    refine SeqAt.notIn_tuple_data r2 r1 p2 p1 (by unfold D.dep at d1; omega) ?_
    rw [any_py _ a fa bs fb]
    exact ⟨.bl _, H, I, rfl, q⟩
  · have fb' : D.fit (D.dep + 1) (.lst bs) = true := fb
    obtain ⟨cs, r2⟩ := Dp.reads I _ y u (hb.dp fb') ry
    rw [D.py] at r2
    refine SeqAt.notIn_list_data r2 r1 p2 p1 (by unfold D.dep at d1; omega) ?_
    rw [any_py _ a fa bs fb]
    exact ⟨.bl _, H, I, rfl, q⟩
def inD (neg : Bool) : List D → Option D
  | [a, b] => (seqD b).bind fun bs => if (a.fit D.dep && bs.all (D.fit D.dep)) = true then some (.bl (if neg then !memD a bs else memD a bs)) else none
  | _ => none
theorem O_in {neg : Bool} : OpS G [oa, ob] k (inD neg) (r2 (rInA G neg)) := by
  intro κ P H σ ρ Fs vs ds Gs d Q R qd nd e q
  cases qd with | cons r1 qd => cases qd with | cons r2 qd =>
  cases qd
  simp only [inD] at e
  obtain ⟨bs, e1, e⟩ := Option.bind_eq_some_iff.mp e
  split at e
  · rename_i h
    cases e
    rw [Bool.and_eq_true] at h
    obtain ⟨P', v1, v2⟩ := two_view R r1 r2
    exact ⟨P', _, _, bs, v1, v2, e1, h.1, h.2, fin_flat q (.bl _) rfl⟩
  · cases e
/-! ### is None -/
def isND : List D → Option D
  | [a, .non] => match a with
    | .und => none
    | .non => some (.bl true)
    | _ => some (.bl false)
  | _ => none
def notND : List D → Option D
  | [a, .non] => match a with
    | .und => none
    | .non => some (.bl false)
    | _ => some (.bl true)
  | _ => none
theorem non_iff {a : D} (h : Den G P H v a) : (decide (v = .non)) = (match a with | .non => true | _ => false) := by
  cases h <;> simp
theorem O_isN : OpS G [oa, ob] k isND (r2 fun x y H Q => y = .non ∧ Q (.bl (decide (x = .non))) H) := by
  intro κ P H σ ρ Fs vs ds Gs d Q R qd nd e q
  cases qd with | cons r1 qd => cases qd with | @cons _ _ b _ _ _ _ _ r2 qd =>
  cases qd
  have v1 := r1.view R
  cases b with
  | non =>
    refine ⟨r2.1.nonI, ?_⟩
    rw [non_iff v1]
    rename_i a _ _ _
    cases a <;> first | (cases e; exact fin_flat q (.bl _) rfl) | cases e
  | _ => cases e
theorem O_notN : OpS G [oa, ob] k notND (r2 fun x y H Q => y = .non ∧ Q (.bl (!decide (x = .non))) H) := by
  intro κ P H σ ρ Fs vs ds Gs d Q R qd nd e q
  cases qd with | cons r1 qd => cases qd with | @cons _ _ b _ _ _ _ _ r2 qd =>
  cases qd
  have v1 := r1.view R
  cases b with
  | non =>
    refine ⟨r2.1.nonI, ?_⟩
    rw [non_iff v1]
    rename_i a _ _ _
    cases a <;> first | (cases e; exact fin_flat q (.bl _) rfl) | cases e
  | _ => cases e
end
end VS

set_option Elab.async false
set_option linter.all false
set_option maxRecDepth 100000
set_option maxHeartbeats 1000000
/-! Rules of operations by data, three: reading, copying, sorting. -/
namespace VS
open PySem PySem.Spec PyProof.Rows L2
section
variable {G : Wd} {P P' : Addr → Prop} {H H' : Hp} {σ : L2.St} {ρ : List D} {κ : List Nat} {Fs : Nat → List Addr} {o oa ob oc : Od} {v : V} {d : D} {F : List Addr} {k : Nat}
theorem DenL.atI {vs : List V} {ds : List D} {i : Int} {d : D} (h : DenL G P H vs ds) (e : L2.atI ds i = some d) : ∃ v, L2.atI vs i = some v ∧ Den G P H v d := by
  unfold L2.atI at e ⊢
  rw [h.length]
  obtain ⟨j, e1, e2⟩ := Option.bind_eq_some_iff.mp e
  obtain ⟨v, h1, h2⟩ := h.get e2
  exact ⟨v, by rw [e1]; exact h1, h2⟩
def ixD : List D → Option D
  | [.lst xs, .int i] => atI xs i
  | [.tup xs, .int i] => atI xs i
  | [.str z, .int i] => if z.length ≤ sizeLine then (atI z.cps.toList i).map fun c => .str ⟨#[c]⟩ else none
  | _ => none
theorem O_ix (ha : oa.k ≤ 1) : OpS G [oa, ob] 0 ixD (r2 (rIx G.K)) := by
  intro κ P H σ ρ Fs vs ds Gs d Q R qd nd e q
  cases qd with | cons r1 qd => cases qd with | cons r2 qd =>
  cases qd
  unfold ixD at e
  split at e
  · rename_i xs i heq
    cases heq
    obtain ⟨a, vs, rfl, a1, a2⟩ := r1.1.kids ha
    obtain ⟨w, b1, b2⟩ := a2.atI e
    exact .inl ⟨a, vs, i, w, rfl, int_own r2.1, a1, b1, q w H [] ⟨b2, rfl⟩ List.nodup_nil (fun a m => by cases m) fun _ _ z => z⟩
  · rename_i xs i heq
    cases heq
    obtain ⟨a, vs, rfl, a1, a2⟩ := r1.1.tupI
    obtain ⟨w, b1, b2⟩ := a2.atI e
    exact .inr (.inl ⟨a, vs, i, w, rfl, int_own r2.1, a1, b1, q w H [] ⟨b2, rfl⟩ List.nodup_nil (fun a m => by cases m) fun _ _ z => z⟩)
  · rename_i z i heq
    cases heq
    split at e
    · rename_i hz
      cases hc : atI z.cps.toList i with
      | none => rw [hc] at e; cases e
      | some c =>
        rw [hc] at e
        cases e
        exact .inr (.inr ⟨z, i, c, r1.1.strI, int_own r2.1, hz, hc, fin_flat q (.str _) rfl⟩)
    · cases e
  · cases e
/-! ### slices -/
def cutD (xs : List D) (lo hi : Option Int) : List D := (xs.drop (HT.sIx xs.length 0 lo)).take (HT.sIx xs.length xs.length hi - HT.sIx xs.length 0 lo)
theorem DenL.cut {vs : List V} {ds : List D} (h : DenL G P H vs ds) (lo hi : Option Int) : DenL G P H (cutV vs lo hi) (cutD ds lo hi) := by
  unfold cutV cutD
  rw [h.length]
  exact (h.drop _).take _
def slG (d : D) (lo hi : Option Int) : Option D := match d with
  | .lst xs => some (.lst (cutD xs lo hi))
  | .tup xs => some (.tup (cutD xs lo hi))
  | .str z => if z.length ≤ sizeLine then some (.str (cutS z lo hi)) else none
  | _ => none
def rSlice (K : PySem.W.Frag) : V → Option Int → Option Int → Hp → VK → Prop := fun x lo hi H Q => rSlL K x lo hi H Q ∨ (rSlA K x lo hi H Q ∨ rSlS x lo hi H Q)
theorem sl_any {X : Cx} : SlR X (rSlice X.K) := sl_list.or (sl_tupA.or sl_str)
theorem sl_fin {Q : VK} {S : List Addr} {x : V} {y d : D} {lo hi : Option Int} (ow : OwnK G P H k x y F) (hk : k ≤ 1) (e : slG y lo hi = some d) (q : ∀ v H' F, OwnK G P H' 1 v d F → F.Nodup → (∀ a ∈ F, H a = none ∨ a ∈ S) → (∀ a o, H a = some o → H' a = some o) → Q v H') : rSlice G.K x lo hi H Q := by
  cases y <;> try cases e
  · simp only [slG] at e
    split at e
    · rename_i hz
      cases e
      exact .inr (.inr ⟨_, ow.strI, hz, fin_flat q (.str _) rfl⟩)
    · cases e
  · rename_i xs
    obtain ⟨a, vs, rfl, a1, a2⟩ := ow.tupI
    refine .inr (.inl ⟨a, vs, rfl, a1, fun hw => ?_, fun _ p hp => fin_tup q hp (a2.cut lo hi)⟩)
    refine fin_flat q ?_ rfl
    have : cutD xs lo hi = xs := by
      show (List.drop _ _).take _ = _
      rw [← a2.length, hw.1, hw.2]
      exact (List.take_of_length_le (by simp [a2.length]))
    rw [this]
    exact (ow.of_flat rfl).1
  · obtain ⟨a, vs, rfl, a1, a2⟩ := ow.kids hk
    exact .inl ⟨a, vs, rfl, a1, fun p hp => fin_lst q hp (a2.cut lo hi)⟩
def slLD : List D → Option D
  | [x, .int i] => slG x (some i) none
  | _ => none
def slHD : List D → Option D
  | [x, .int i] => slG x none (some i)
  | _ => none
def slBD : List D → Option D
  | [x, .int i, .int j] => slG x (some i) (some j)
  | _ => none
theorem O_slL (ha : oa.k ≤ 1) : OpS G [oa, ob] 1 slLD (rsL (rSlice G.K)) := by
  intro κ P H σ ρ Fs vs ds Gs d Q R qd nd e q
  cases qd with | cons r1 qd => cases qd with | @cons _ _ b _ _ _ _ _ r2 qd =>
  cases qd
  cases b <;> try cases e
  exact ⟨_, int_own r2.1, sl_fin r1.1 ha e q⟩
theorem O_slH (ha : oa.k ≤ 1) : OpS G [oa, ob] 1 slHD (rsH (rSlice G.K)) := by
  intro κ P H σ ρ Fs vs ds Gs d Q R qd nd e q
  cases qd with | cons r1 qd => cases qd with | @cons _ _ b _ _ _ _ _ r2 qd =>
  cases qd
  cases b <;> try cases e
  exact ⟨_, int_own r2.1, sl_fin r1.1 ha e q⟩
theorem O_slB (ha : oa.k ≤ 1) : OpS G [oa, ob, oc] 1 slBD (rsB (rSlice G.K)) := by
  intro κ P H σ ρ Fs vs ds Gs d Q R qd nd e q
  cases qd with | cons r1 qd => cases qd with | @cons _ _ b _ _ _ _ _ r2 qd => cases qd with | @cons _ _ c _ _ _ _ _ r3 qd =>
  cases qd
  cases b <;> try cases e
  cases c <;> try cases e
  exact ⟨_, int_own r3.1, _, int_own r2.1, sl_fin r1.1 ha e q⟩
/-! ### len, list, tuple, int, sum -/
theorem Tri.len {R : V → D → List Addr → Prop} {vs : List V} {ds : List D} {Gs : List (List Addr)} (t : Tri R vs ds Gs) : vs.length = ds.length := t.length.1
theorem OwnK.lenL {ds : List D} (h : OwnK G P H k v (.lst ds) F) : ∃ a vs, v = .ref a ∧ SqL G.K H a vs ∧ vs.length = ds.length := by
  cases k with
  | zero =>
    obtain ⟨a, vs, e, h1, h2⟩ := h.kids (Nat.zero_le _)
    exact ⟨a, vs, e, h1, h2.length⟩
  | succ k =>
    obtain ⟨a, vs, Gs, e, h1, t, _⟩ := h
    exact ⟨a, vs, e, .inl (.inl h1), t.len⟩
def lenD : List D → Option D
  | [.lst xs] => some (.int xs.length)
  | [.tup xs] => some (.int xs.length)
  | [.str z] => if z.length ≤ sizeLine then some (.int z.length) else none
  | _ => none
theorem O_len : OpS G [oa] k lenD (fun xs H Q => ∃ x n, xs = [x] ∧ LenV G.K x H n ∧ Q (.int n) H) := by
  intro κ P H σ ρ Fs vs ds Gs d Q R qd nd e q
  cases qd with | @cons _ _ a _ _ _ _ _ r1 qd =>
  cases qd
  cases a <;> try cases e
  · simp only [lenD] at e
    split at e
    · rename_i hz
      cases e
      exact ⟨_, _, rfl, by rw [r1.1.strI]; exact ⟨hz, rfl⟩, fin_flat q (.int _) rfl⟩
    · cases e
  · obtain ⟨a, vs, rfl, a1, a2⟩ := r1.1.tupI
    refine ⟨_, _, rfl, .inr ⟨vs, a1, rfl⟩, ?_⟩
    rw [a2.length]
    exact fin_flat q (.int _) rfl
  · obtain ⟨a, vs, rfl, a1, a2⟩ := r1.1.lenL
    refine ⟨_, _, rfl, .inl ⟨vs, a1, rfl⟩, ?_⟩
    rw [a2]
    exact fin_flat q (.int _) rfl
def listD : List D → Option D
  | [.lst xs] => some (.lst xs)
  | [.tup xs] => some (.lst xs)
  | _ => none
theorem O_list (ha : oa.k ≤ 1) : OpS G [oa] 1 listD (fun xs H Q => ∃ p ys, xs = [.ref p] ∧ (SqL G.K H p ys ∨ SqT G.K H p ys) ∧ ∀ l, H l = none → Q (.ref l) (upd H l (.lst ys))) := by
  intro κ P H σ ρ Fs vs ds Gs d Q R qd nd e q
  cases qd with | @cons _ _ a _ _ _ _ _ r1 qd =>
  cases qd
  cases a <;> try cases e
  · obtain ⟨a, vs, rfl, a1, a2⟩ := r1.1.tupI
    exact ⟨a, vs, rfl, .inr a1, fun l hl => fin_lst q hl a2⟩
  · obtain ⟨a, vs, rfl, a1, a2⟩ := r1.1.kids ha
    exact ⟨a, vs, rfl, .inl a1, fun l hl => fin_lst q hl a2⟩
def tupleD : List D → Option D
  | [.lst xs] => some (.tup xs)
  | [.tup xs] => some (.tup xs)
  | _ => none
theorem O_tuple (ha : oa.k ≤ 1) : OpS G [oa] k tupleD (fun xs H Q => ∃ p ys, xs = [.ref p] ∧ ((SqL G.K H p ys ∧ ∀ l, H l = none → Q (.ref l) (upd H l (.tup ys))) ∨ (SqT G.K H p ys ∧ Q (.ref p) H))) := by
  intro κ P H σ ρ Fs vs ds Gs d Q R qd nd e q
  cases qd with | @cons _ _ a _ _ _ _ _ r1 qd =>
  cases qd
  cases a <;> try cases e
  · obtain ⟨a, vs, rfl, a1, a2⟩ := r1.1.tupI
    exact ⟨a, vs, rfl, .inr ⟨a1, fin_flat q (r1.1.of_flat rfl).1 rfl⟩⟩
  · obtain ⟨a, vs, rfl, a1, a2⟩ := r1.1.kids ha
    exact ⟨a, vs, rfl, .inl ⟨a1, fun l hl => fin_tup q hl a2⟩⟩
def intD : List D → Option D
  | [.int i] => some (.int i)
  | [.bl b] => some (.int (if b then 1 else 0))
  | _ => none
theorem O_int : OpS G [oa] k intD (fun xs H Q => (∃ i, xs = [.int i] ∧ Q (.int i) H) ∨ ∃ k, xs = [.bl k] ∧ Q (.int (if k then 1 else 0)) H) := by
  intro κ P H σ ρ Fs vs ds Gs d Q R qd nd e q
  cases qd with | @cons _ _ a _ _ _ _ _ r1 qd =>
  cases qd
  cases a <;> try cases e
  · exact .inr ⟨_, by rw [(bl_own r1.1).1], fin_flat q (.int _) rfl⟩
  · exact .inl ⟨_, by rw [int_own r1.1], fin_flat q (.int _) rfl⟩
def intsD : List D → Option (List Int)
  | [] => some []
  | .int i :: r => (intsD r).map (i :: ·)
  | _ => none
theorem intsD_den : ∀ {vs : List V} {ds : List D} {ns : List Int}, DenL G P H vs ds → intsD ds = some ns → vs = ns.map V.int ∧ ds = ns.map D.int
  | _, _, _, .nil, e => by cases e; exact ⟨rfl, rfl⟩
  | _, d :: ds, ns, .cons h r, e => by
    cases d <;> try cases e
    rename_i i
    simp only [intsD] at e
    cases hr : intsD ds with
    | none => rw [hr] at e; cases e
    | some ms =>
      rw [hr] at e
      cases e
      obtain ⟨a, b⟩ := intsD_den r hr
      cases h
      exact ⟨by rw [a]; rfl, by rw [b]; rfl⟩
def sumD : List D → Option D
  | [x] => (seqD x).bind fun xs => (intsD xs).map fun ns => .int ns.sum
  | _ => none
theorem seq_kids {x : D} {xs : List D} (h : OwnK G P H k v x F) (hk : k ≤ 1) (e : seqD x = some xs) : ∃ a vs, v = .ref a ∧ (SqL G.K H a vs ∨ SqT G.K H a vs) ∧ DenL G P H vs xs := by
  cases x <;> cases e
  · obtain ⟨a, vs, e, a1, a2⟩ := h.tupI
    exact ⟨a, vs, e, .inr a1, a2⟩
  · obtain ⟨a, vs, e, a1, a2⟩ := h.kids hk
    exact ⟨a, vs, e, .inl a1, a2⟩
theorem O_sum (ha : oa.k ≤ 1) : OpS G [oa] k sumD (rSumA G.K) := by
  intro κ P H σ ρ Fs vs ds Gs d Q R qd nd e q
  cases qd with | cons r1 qd =>
  cases qd
  simp only [sumD] at e
  obtain ⟨xs, e1, e⟩ := Option.bind_eq_some_iff.mp e
  obtain ⟨ns, e2, e⟩ := Option.map_eq_some_iff.mp e
  subst e
  obtain ⟨a, vs, rfl, a1, a2⟩ := seq_kids r1.1 ha e1
  obtain ⟨rfl, _⟩ := intsD_den a2 e2
  exact ⟨a, ns, rfl, a1, fin_flat q (.int _) rfl⟩
/-! ### displays -/
def tupD (ds : List D) : Option D := if ds.length ≤ sizeLine then some (.tup ds) else none
def lstD (ds : List D) : Option D := if ds.length ≤ sizeLine then some (.lst ds) else none
/-- operands whose values may be kept -/
abbrev Zero (os : List Od) : Prop := ∀ o ∈ os, o.k = 0
theorem quad_den {os : List Od} (hz : Zero os) : ∀ {vs : List V} {ds : List D} {Gs : List (List Addr)}, Quad (OdAt G P H σ Fs) os vs ds Gs → DenL G P H vs ds := by
  induction os with
  | nil => intro vs ds Gs q; cases q; exact .nil
  | cons o os ih =>
    intro vs ds Gs q
    cases q with
    | cons r q =>
      have h := r.1
      rw [hz o List.mem_cons_self] at h
      exact .cons h.1 (ih (fun p m => hz p (List.mem_cons_of_mem _ m)) q)
theorem O_tup {os : List Od} (hz : Zero os) : OpS G os k tupD rTup := by
  intro κ P H σ ρ Fs vs ds Gs d Q R qd nd e q
  have dn := quad_den hz qd
  unfold tupD at e
  split at e
  · rename_i h
    cases e
    exact ⟨by rw [dn.length]; exact h, fun p hp => fin_tup q hp dn⟩
  · cases e
theorem O_lst {os : List Od} (hz : Zero os) : OpS G os 1 lstD rLst := by
  intro κ P H σ ρ Fs vs ds Gs d Q R qd nd e q
  have dn := quad_den hz qd
  unfold lstD at e
  split at e
  · rename_i h
    cases e
    exact ⟨by rw [dn.length]; exact h, fun p hp => fin_lst q hp dn⟩
  · cases e
/-! ### all, any -/
def blsD : List D → Option (List Bool)
  | [] => some []
  | .bl i :: r => (blsD r).map (i :: ·)
  | _ => none
theorem blsD_den : ∀ {vs : List V} {ds : List D} {ns : List Bool}, DenL G P H vs ds → blsD ds = some ns → vs = ns.map V.bl
  | _, _, _, .nil, e => by cases e; rfl
  | _, d :: ds, ns, .cons h r, e => by
    cases d <;> try cases e
    rename_i i
    simp only [blsD] at e
    cases hr : blsD ds with
    | none => rw [hr] at e; cases e
    | some ms =>
      rw [hr] at e
      cases e
      have a := blsD_den r hr
      cases h
      rw [a]
      rfl
def allD : List D → Option D
  | [.lst xs] => (blsD xs).map fun bs => .bl (bs.all id)
  | _ => none
def anyD : List D → Option D
  | [.lst xs] => (blsD xs).map fun bs => .bl (bs.any id)
  | _ => none
theorem O_all (ha : oa.k ≤ 1) : OpS G [oa] k allD (rAll G.K) := by
  intro κ P H σ ρ Fs vs ds Gs d Q R qd nd e q
  cases qd with | @cons _ _ a _ _ _ _ _ r1 qd =>
  cases qd
  cases a <;> try cases e
  simp only [allD] at e
  obtain ⟨bs, e2, e⟩ := Option.map_eq_some_iff.mp e
  subst e
  obtain ⟨a, vs, rfl, a1, a2⟩ := r1.1.kids ha
  have := blsD_den a2 e2
  subst this
  exact ⟨a, bs, rfl, a1, fin_flat q (.bl _) rfl⟩
theorem O_any (ha : oa.k ≤ 1) : OpS G [oa] k anyD (rAny G.K) := by
  intro κ P H σ ρ Fs vs ds Gs d Q R qd nd e q
  cases qd with | @cons _ _ a _ _ _ _ _ r1 qd =>
  cases qd
  cases a <;> try cases e
  simp only [anyD] at e
  obtain ⟨bs, e2, e⟩ := Option.map_eq_some_iff.mp e
  subst e
  obtain ⟨a, vs, rfl, a1, a2⟩ := r1.1.kids ha
  have := blsD_den a2 e2
  subst this
  exact ⟨a, bs, rfl, a1, fin_flat q (.bl _) rfl⟩
/-! ### min, max, gcd -/
def max2D := i2 (fun _ _ => true) fun i j => .int (if j > i then j else i)
def min2D := i2 (fun _ _ => true) fun i j => .int (if j < i then j else i)
theorem O_two {f : Int → Int → Int} : OpS G [oa, ob] k (i2 (fun _ _ => true) fun i j => .int (f i j)) (fun xs H Q => ∃ i j, xs = [.int i, .int j] ∧ Q (.int (f i j)) H) := by
  intro κ P H σ ρ Fs vs ds Gs d Q R qd nd e q
  cases qd with | @cons _ _ a _ _ _ _ _ r1 qd => cases qd with | @cons _ _ b _ _ _ _ _ r2 qd =>
  cases qd
  cases a <;> try cases e
  cases b <;> try cases e
  exact ⟨_, _, by rw [int_own r1.1, int_own r2.1], fin_flat q (.int _) rfl⟩
theorem O_max2 : OpS G [oa, ob] k max2D (fun xs H Q => ∃ i j, xs = [.int i, .int j] ∧ Q (.int (if j > i then j else i)) H) := O_two
theorem O_min2 : OpS G [oa, ob] k min2D (fun xs H Q => ∃ i j, xs = [.int i, .int j] ∧ Q (.int (if j < i then j else i)) H) := O_two
def gcdD := i2 (fun _ _ => true) fun i j => .int ((Nat.gcd i.natAbs j.natAbs : Nat) : Int)
theorem O_gcd : OpS G [oa, ob] k gcdD rGcd := O_two (f := fun i j => ((Nat.gcd i.natAbs j.natAbs : Nat) : Int))
def maxL : Int → List Int → Int
  | m, [] => m
  | m, n :: ns => maxL (if m < n then n else m) ns
def minL : Int → List Int → Int
  | m, [] => m
  | m, n :: ns => minL (if n < m then n else m) ns
theorem maxL_ok : ∀ (ns : List Int) (m : Int), (maxL m ns = m ∨ maxL m ns ∈ ns) ∧ m ≤ maxL m ns ∧ ∀ y ∈ ns, y ≤ maxL m ns
  | [], m => ⟨.inl rfl, Int.le_refl _, fun y h => by cases h⟩
  | n :: ns, m => by
    obtain ⟨h1, h2, h3⟩ := maxL_ok ns (if m < n then n else m)
    have e : maxL m (n :: ns) = maxL (if m < n then n else m) ns := rfl
    rw [e]
    refine ⟨?_, ?_, fun y hy => ?_⟩
    · rcases h1 with h | h
      · rw [h]
        split
        · exact .inr List.mem_cons_self
        · exact .inl rfl
      · exact .inr (List.mem_cons_of_mem _ h)
    · split at h2 <;> rename_i c <;> simp only [c, if_true, if_false] <;> omega
    · rcases List.mem_cons.mp hy with rfl | hy
      · split at h2 <;> rename_i c <;> simp only [c, if_true, if_false] <;> omega
      · exact h3 y hy
theorem minL_ok : ∀ (ns : List Int) (m : Int), (minL m ns = m ∨ minL m ns ∈ ns) ∧ minL m ns ≤ m ∧ ∀ y ∈ ns, minL m ns ≤ y
  | [], m => ⟨.inl rfl, Int.le_refl _, fun y h => by cases h⟩
  | n :: ns, m => by
    obtain ⟨h1, h2, h3⟩ := minL_ok ns (if n < m then n else m)
    have e : minL m (n :: ns) = minL (if n < m then n else m) ns := rfl
    rw [e]
    refine ⟨?_, ?_, fun y hy => ?_⟩
    · rcases h1 with h | h
      · rw [h]
        split
        · exact .inr List.mem_cons_self
        · exact .inl rfl
      · exact .inr (List.mem_cons_of_mem _ h)
    · split at h2 <;> rename_i c <;> simp only [c, if_true, if_false] <;> omega
    · rcases List.mem_cons.mp hy with rfl | hy
      · split at h2 <;> rename_i c <;> simp only [c, if_true, if_false] <;> omega
      · exact h3 y hy
def maxD : List D → Option D
  | [.lst xs] => (intsD xs).bind fun ns => match ns with
    | n :: ns => some (.int (maxL n ns))
    | [] => none
  | _ => none
def minD : List D → Option D
  | [.lst xs] => (intsD xs).bind fun ns => match ns with
    | n :: ns => some (.int (minL n ns))
    | [] => none
  | _ => none
theorem O_max (ha : oa.k ≤ 1) : OpS G [oa] k maxD (rMax G.K) := by
  intro κ P H σ ρ Fs vs ds Gs d Q R qd nd e q
  cases qd with | @cons _ _ a _ _ _ _ _ r1 qd =>
  cases qd
  cases a <;> try cases e
  simp only [maxD] at e
  obtain ⟨ns, e2, e⟩ := Option.bind_eq_some_iff.mp e
  obtain ⟨a, vs, rfl, a1, a2⟩ := r1.1.kids ha
  obtain ⟨rfl, _⟩ := intsD_den a2 e2
  cases ns with
  | nil => cases e
  | cons n ns =>
    cases e
    refine ⟨a, n :: ns, rfl, a1, Nat.succ_pos _, fun m hm hy => ?_⟩
    obtain ⟨h1, h2, h3⟩ := maxL_ok ns n
    have : m = maxL n ns := by
      have t1 := hy (maxL n ns) (by rcases h1 with h | h; rw [h]; exact List.mem_cons_self; exact List.mem_cons_of_mem _ h)
      have t2 : m ≤ maxL n ns := by
        rcases List.mem_cons.mp hm with rfl | hm
        · exact h2
        · exact h3 m hm
      omega
    rw [this]
    exact fin_flat q (.int _) rfl
theorem O_min (ha : oa.k ≤ 1) : OpS G [oa] k minD (rMin G.K) := by
  intro κ P H σ ρ Fs vs ds Gs d Q R qd nd e q
  cases qd with | @cons _ _ a _ _ _ _ _ r1 qd =>
  cases qd
  cases a <;> try cases e
  simp only [minD] at e
  obtain ⟨ns, e2, e⟩ := Option.bind_eq_some_iff.mp e
  obtain ⟨a, vs, rfl, a1, a2⟩ := r1.1.kids ha
  obtain ⟨rfl, _⟩ := intsD_den a2 e2
  cases ns with
  | nil => cases e
  | cons n ns =>
    cases e
    refine ⟨a, n :: ns, rfl, a1, Nat.succ_pos _, fun m hm hy => ?_⟩
    obtain ⟨h1, h2, h3⟩ := minL_ok ns n
    have : m = minL n ns := by
      have t1 := hy (minL n ns) (by rcases h1 with h | h; rw [h]; exact List.mem_cons_self; exact List.mem_cons_of_mem _ h)
      have t2 : minL n ns ≤ m := by
        rcases List.mem_cons.mp hm with rfl | hm
        · exact h2
        · exact h3 m hm
      omega
    rw [this]
    exact fin_flat q (.int _) rfl
end
end VS

set_option Elab.async false
set_option linter.all false
set_option maxRecDepth 100000
set_option maxHeartbeats 1000000
/-! Rules of operations by data, four: isinstance, sorted, changes in place. -/
namespace VS
open PySem PySem.Spec PyProof.Rows L2
/-! ### the names that are built in -/
theorem vb_isinstance : bootBuiltins "isinstance" = some (.builtin "isinstance") := by decide +kernel
theorem vb_len : bootBuiltins "len" = some (.builtin "len") := by decide +kernel
theorem vb_sorted : bootBuiltins "sorted" = some (.builtin "sorted") := by decide +kernel
theorem vb_sum : bootBuiltins "sum" = some (.builtin "sum") := by decide +kernel
theorem vb_max : bootBuiltins "max" = some (.builtin "max") := by decide +kernel
theorem vb_min : bootBuiltins "min" = some (.builtin "min") := by decide +kernel
theorem vb_all : bootBuiltins "all" = some (.builtin "all") := by decide +kernel
theorem vb_any : bootBuiltins "any" = some (.builtin "any") := by decide +kernel
theorem vb_abs : bootBuiltins "abs" = some (.builtin "abs") := by decide +kernel
theorem vb_int : bootBuiltins "int" = some (.type "int") := by decide +kernel
theorem vb_list : bootBuiltins "list" = some (.type "list") := by decide +kernel
theorem vb_tuple : bootBuiltins "tuple" = some (.type "tuple") := by decide +kernel
theorem vb_str : bootBuiltins "str" = some (.type "str") := by decide +kernel
theorem vb_bool : bootBuiltins "bool" = some (.type "bool") := by decide +kernel
theorem vb_dict : bootBuiltins "dict" = some (.type "dict") := by decide +kernel
theorem vb_set : bootBuiltins "set" = some (.type "set") := by decide +kernel
/-! ### isinstance -/
def tyN : D → Option String
  | .non => some "NoneType"
  | .bl _ => some "bool"
  | .int _ => some "int"
  | .str _ => some "str"
  | .lst _ => some "list"
  | .tup _ => some "tuple"
  | _ => none
def tyA : List String := ["NoneType", "bool", "int", "str", "list", "tuple"]
def tyB : List String := ["list", "tuple", "str", "bool", "int"]
def isiB (a b : String) : Bool := a == b || (a == "bool" && b == "int")
theorem isi_tab : (tyA.all fun a => tyB.all fun b => kitB a b == some (isiB a b)) = true := by decide +kernel
theorem isi_kit {a b : String} (ha : a ∈ tyA) (hb : b ∈ tyB) : kitB a b = some (isiB a b) := by
  have := List.all_eq_true.mp (List.all_eq_true.mp isi_tab a ha) b hb
  exact eq_of_beq this
theorem tyN_mem {d : D} {a : String} (h : tyN d = some a) : a ∈ tyA := by
  cases d <;> cases h <;> decide
section
variable {G : Wd} {P P' : Addr → Prop} {H H' : Hp} {σ : L2.St} {ρ : List D} {κ : List Nat} {Fs : Nat → List Addr} {o oa ob oc : Od} {v : V} {d : D} {F : List Addr} {k : Nat}
theorem Den.tyX {a : String} (h : Den G P H v d) (e : tyN d = some a) : TyX G.K H v (.type a) := by
  cases h <;> cases e
  · exact .base .non
  · exact .base (.bl _)
  · exact .base (.int _)
  · exact .base (.str _)
  · exact .base (.tup ‹_›)
  · rename_i h r
    rcases h with ⟨_, h⟩ | ⟨o, h⟩ | ⟨o, its, n, h1, h2, _⟩
    · exact .base (.lst h)
    · exact .base (.frz h)
    · exact .kList h1 h2
def isiD (b : String) : List D → Option D
  | [d] => (tyN d).map fun a => .bl (isiB a b)
  | _ => none
def rI1 (K : PySem.W.Frag) (b : String) : List V → Hp → VK → Prop
  | [v], H, Q => rIsi K [v, .ty b] H Q
  | _, _, _ => False
theorem O_isi {b : String} (hb : b ∈ tyB) : OpS G [oa] k (isiD b) (rI1 G.K b) := by
  intro κ P H σ ρ Fs vs ds Gs d Q R qd nd e q
  cases qd with | cons r1 qd =>
  cases qd
  obtain ⟨a, e1, e⟩ := Option.map_eq_some_iff.mp e
  subst e
  exact ⟨_, .ty b, .type a, .type b, _, rfl, .ty b, (r1.view R).tyX e1, kit_ty (isi_kit (tyN_mem e1) hb), fin_flat q (.bl _) rfl⟩
def isi2D (b c : String) : List D → Option D
  | [d] => (tyN d).map fun a => .bl (isiB a b || isiB a c)
  | _ => none
def rI2 (K : PySem.W.Frag) (b c : String) : List V → Hp → VK → Prop
  | [v], H, Q => [V.ty b, V.ty c].length ≤ sizeLine ∧ ∀ p, H p = none → rIsiT K [v, .ref p] (upd H p (.tup [.ty b, .ty c])) Q
  | _, _, _ => False
theorem O_isi2 {b c : String} (hb : b ∈ tyB) (hc : c ∈ tyB) : OpS G [oa] k (isi2D b c) (rI2 G.K b c) := by
  intro κ P H σ ρ Fs vs ds Gs d Q R qd nd e q
  cases qd with | cons r1 qd =>
  cases qd
  obtain ⟨a, e1, e⟩ := Option.map_eq_some_iff.mp e
  subst e
  refine ⟨by show 2 ≤ sizeLine; decide, fun p hp => ?_⟩
  have E : Ext (fun _ => False) P H P (upd H p (.tup [.ty b, .ty c])) := Ext.new (keep_upd hp)
  have dn := r1.view R
  refine ⟨_, p, [.ty b, .ty c], .type a, [.type b, .type c], isiB a b || isiB a c, rfl, upd_same, .cons (.ty b) (.cons (.ty c) .nil), (dn.ext (Ext.new (keep_upd hp))).tyX e1, ?_, q _ _ [] (OwnK.flat (F := []) (.bl _) rfl) List.nodup_nil (fun a m => by cases m) (keep_upd hp)⟩
  have k1 := kit_ty (K := G.K) (isi_kit (tyN_mem e1) hb)
  have k2 := kit_ty (K := G.K) (isi_kit (tyN_mem e1) hc)
  unfold PySem.W.kitAny
  rw [k1]
  cases isiB a b with
  | true => rfl
  | false =>
    simp only
    unfold PySem.W.kitAny
    rw [k2]
    cases isiB a c <;> rfl
end
section
variable {X : Cx} {κ T U : List Nat} {k : Nat} {f g : Sem0} {a b e : Expr} {rest : List Expr} {pos p p1 p2 p3 : Pos} {x1 : Nat}
theorem ve_isi {oa : Od} {T : Str} {Ty : String} (hT : Ty ∈ tyB) (hg : Gl X "isinstance") (hm : X.mg "isinstance" = none) (ha : VO X κ a oa) (hgt : Gl X T) (hmt : X.mg T = none) (hbt : bootBuiltins T = some (.type Ty)) (hn : T ≠ "__name__" := by decide) (hdb : (T == ("__debug__" : Str)) = false := by decide)
    (hs : starEach [a, .Name T p1] X.env = (false, eval a X.env) :: starEach [.Name T p1] X.env := by rfl) (hs2 : starEach [.Name T p1] X.env = (false, eval (.Name T p1) X.env) :: starEach [] X.env := by rfl) (hpl : (backTo pos (starEach [.Name T p1] X.env)).any (·.1) = false := by rfl) :
    PE X (.Call (.Name "isinstance" p) [a, .Name T p1] [] pos) (tV (gd X) (Ts [oa]) κ k (opF (isiD Ty) [oa])) :=
  (pe_callB call_isi hg hm vb_isinstance (pa_cons ha.pe (pa_cons (pe_bltn (v := .ty Ty) hgt hmt hbt rfl hn hdb) pa_nil hs2) hs) (by decide) (by decide) hs hpl).imp fun σ H Q h => op_ok (wf1 ha) (O_isi hT) h
theorem ve_isi2 {oa : Od} {T S : Str} {Ty Sy : String} (hT : Ty ∈ tyB) (hS : Sy ∈ tyB) (hg : Gl X "isinstance") (hm : X.mg "isinstance" = none) (ha : VO X κ a oa) (hgt : Gl X T) (hmt : X.mg T = none) (hbt : bootBuiltins T = some (.type Ty)) (hgs : Gl X S) (hms : X.mg S = none) (hbs : bootBuiltins S = some (.type Sy))
    (hn : T ≠ "__name__" := by decide) (hdb : (T == ("__debug__" : Str)) = false := by decide) (hn2 : S ≠ "__name__" := by decide) (hdb2 : (S == ("__debug__" : Str)) = false := by decide)
    (hs : starEach [a, .Tuple [.Name T p1, .Name S p2] x1 p3] X.env = (false, eval a X.env) :: starEach [.Tuple [.Name T p1, .Name S p2] x1 p3] X.env := by rfl) (hs2 : starEach [.Tuple [.Name T p1, .Name S p2] x1 p3] X.env = (false, eval (.Tuple [.Name T p1, .Name S p2] x1 p3) X.env) :: starEach [] X.env := by rfl) (hpl : (backTo pos (starEach [.Tuple [.Name T p1, .Name S p2] x1 p3] X.env)).any (·.1) = false := by rfl)
    (hs3 : starEach [.Name T p1, .Name S p2] X.env = (false, eval (.Name T p1) X.env) :: starEach [.Name S p2] X.env := by rfl) (hs4 : starEach [.Name S p2] X.env = (false, eval (.Name S p2) X.env) :: starEach [] X.env := by rfl) :
    PE X (.Call (.Name "isinstance" p) [a, .Tuple [.Name T p1, .Name S p2] x1 p3] [] pos) (tV (gd X) (Ts [oa]) κ k (opF (isi2D Ty Sy) [oa])) :=
  (pe_callB call_isiT hg hm vb_isinstance (pa_cons ha.pe (pa_cons (pe_tup (pa_cons (pe_bltn (v := .ty Ty) hgt hmt hbt rfl hn hdb) (pa_cons (pe_bltn (v := .ty Sy) hgs hms hbs rfl hn2 hdb2) pa_nil hs4) hs3)) pa_nil hs2) hs) (by decide) (by decide) hs hpl).imp fun σ H Q h => op_ok (wf1 ha) (O_isi2 hT hS) h
/-! ### and, or, not as values of bools -/
def andV (f g : Sem0) : Sem0 := fun ρ => (f ρ).bind fun p => match p.1 with
  | .bl true => g p.2
  | .bl false => some (.bl false, p.2)
  | _ => none
def orV (f g : Sem0) : Sem0 := fun ρ => (f ρ).bind fun p => match p.1 with
  | .bl false => g p.2
  | .bl true => some (.bl true, p.2)
  | _ => none
def notV (f : Sem0) : Sem0 := fun ρ => (f ρ).bind fun p => match p.1 with
  | .bl b => some (.bl (!b), p.2)
  | _ => none
theorem ve_one {op : BoolOp} (h : PE X a (tV (gd X) T κ k f)) : PE X (.BoolOp op [a] pos) (tV (gd X) T κ k f) := pe_one h
theorem bl_res {G : Wd} {P : Addr → Prop} {H : Hp} {σ : L2.St} {ρ ρ' : List D} {Fs : Nat → List Addr} {Q : VK} {c : Bool} (R : Rep G P H σ ρ κ Fs) (s : Stp T P H Fs ρ P H Fs ρ) (q : Res G T κ k P H Fs σ ρ ρ (.bl c) Q) : Q (.bl c) H :=
  q _ H P [] Fs R (OwnK.flat (F := []) (.bl c) rfl) List.nodup_nil (fun a m => by cases m) s.ext s.st s.gr
theorem ve_and (ha : PE X a (tV (gd X) T κ k f)) (hb : PE X (.BoolOp .And (b :: rest) pos) (tV (gd X) U κ k g)) : PE X (.BoolOp .And (a :: b :: rest) pos) (tV (gd X) (T ++ U) κ k (andV f g)) :=
  (pe_and ha hb).imp fun σ H Q ⟨P, ρ, Fs, d, ρ', R, e, q⟩ => by
    unfold andV at e
    obtain ⟨⟨c, ρ1⟩, e1, e⟩ := Option.bind_eq_some_iff.mp e
    refine ⟨P, ρ, Fs, c, ρ1, R, e1, fun v H' P' F Fs' R' o nd fr E st gr => ?_⟩
    cases c <;> try cases e
    rename_i c
    refine ⟨c, (bl_own o).1, ?_⟩
    cases c with
    | true => exact ⟨P', ρ1, Fs', d, ρ', R', e, fun v H2 P2 F Fs2 R2 o nd fr E2 st2 gr2 => let s := Stp.trans R ⟨E, st, gr⟩ ⟨E2, st2, gr2⟩; q v H2 P2 F Fs2 R2 o nd (fun a m => ⟨(fr a m).1, back_none E (fr a m).2.1, (fr a m).2.2⟩) s.ext s.st s.gr⟩
    | false =>
      cases e
      have s := Stp.mono (U := T ++ U) R (fun i hi => List.mem_append_left _ hi) ⟨E, st, gr⟩
      exact q _ H' P' [] Fs' R' (OwnK.flat (F := []) (.bl _) rfl) List.nodup_nil (fun a m => by cases m) s.ext s.st s.gr
theorem ve_or (ha : PE X a (tV (gd X) T κ k f)) (hb : PE X (.BoolOp .Or (b :: rest) pos) (tV (gd X) U κ k g)) : PE X (.BoolOp .Or (a :: b :: rest) pos) (tV (gd X) (T ++ U) κ k (orV f g)) :=
  (pe_or ha hb).imp fun σ H Q ⟨P, ρ, Fs, d, ρ', R, e, q⟩ => by
    unfold orV at e
    obtain ⟨⟨c, ρ1⟩, e1, e⟩ := Option.bind_eq_some_iff.mp e
    refine ⟨P, ρ, Fs, c, ρ1, R, e1, fun v H' P' F Fs' R' o nd fr E st gr => ?_⟩
    cases c <;> try cases e
    rename_i c
    refine ⟨c, (bl_own o).1, ?_⟩
    cases c with
    | false => exact ⟨P', ρ1, Fs', d, ρ', R', e, fun v H2 P2 F Fs2 R2 o nd fr E2 st2 gr2 => let s := Stp.trans R ⟨E, st, gr⟩ ⟨E2, st2, gr2⟩; q v H2 P2 F Fs2 R2 o nd (fun a m => ⟨(fr a m).1, back_none E (fr a m).2.1, (fr a m).2.2⟩) s.ext s.st s.gr⟩
    | true =>
      cases e
      have s := Stp.mono (U := T ++ U) R (fun i hi => List.mem_append_left _ hi) ⟨E, st, gr⟩
      exact q _ H' P' [] Fs' R' (OwnK.flat (F := []) (.bl _) rfl) List.nodup_nil (fun a m => by cases m) s.ext s.st s.gr
theorem ve_not (ha : PE X a (tV (gd X) T κ k f)) : PE X (.UnaryOp .Not a pos) (tV (gd X) T κ k (notV f)) :=
  (pe_not ha).imp fun σ H Q ⟨P, ρ, Fs, d, ρ', R, e, q⟩ => by
    unfold notV at e
    obtain ⟨⟨c, ρ1⟩, e1, e⟩ := Option.bind_eq_some_iff.mp e
    refine ⟨P, ρ, Fs, c, ρ1, R, e1, fun v H' P' F Fs' R' o nd fr E st gr => ?_⟩
    cases c <;> try cases e
    exact ⟨_, (bl_own o).1, q _ H' P' [] Fs' R' (OwnK.flat (F := []) (.bl _) rfl) List.nodup_nil (fun a m => by cases m) E st gr⟩
/-! ### truth -/
def truF (f : Sem0) : Tst := fun ρ => (f ρ).bind fun p => (truD p.1).bind fun b => some (b, p.2)
theorem den_tru {G : Wd} {P : Addr → Prop} {H : Hp} {v : V} {d : D} {c : Bool} (h : Den G P H v d) (e : truD d = some c) : TruV G.K v H c := by
  cases h with
  | non => cases e; rfl
  | bl b => cases e; rfl
  | int i => cases e; rfl
  | str x =>
    simp only [truD] at e
    split at e
    · rename_i hz
      cases e
      exact ⟨hz, rfl⟩
    · cases e
  | tup ha r =>
    cases e
    refine .inr (.inl ⟨_, .inl (.inl ha), ?_⟩)
    have := r.length
    rename_i vs ds
    cases vs <;> cases ds <;> simp_all
  | lst ha r =>
    cases e
    refine .inl ⟨_, ha.sq, ?_⟩
    have := r.length
    rename_i vs ds
    cases vs <;> cases ds <;> simp_all
  | dct p ha hk r r2 =>
    cases hk with
    | k kvs =>
      cases e
      refine .inr (.inr ⟨kvs, ha, ?_⟩)
      cases kvs <;> rfl
    | n xs ks _ => cases e
theorem O_tru {G : Wd} {oa : Od} {κ : List Nat} (wf : WfSeq κ [oa]) {σ : L2.St} {H : Hp} {Q : Bool → Hp → Prop} (h : tVT G (Ts [oa]) κ (fun ρ => (seqF [oa] ρ).bind fun p => match p.1 with | [d] => (truD d).bind fun b => some (b, p.2) | _ => none) σ H Q) :
    (oa.te G κ) σ H fun x H' => ∃ k, TruV G.K x H' k ∧ Q k H' := by
  obtain ⟨P, ρ, Fs, b, ρ', R, e, q⟩ := h
  obtain ⟨⟨ds, ρ1⟩, e1, e⟩ := Option.bind_eq_some_iff.mp e
  have := args_ok [oa] wf R e1 (Q := fun vs H' => match vs with | [x] => ∃ k, TruV G.K x H' k ∧ Q k H' | _ => False) fun vs H1 P1 Gs Fs1 R1 qd nd fr E st gr => by
    cases qd with | cons r1 qd =>
    cases qd
    dsimp only at e
    obtain ⟨c, e2, e⟩ := Option.bind_eq_some_iff.mp e
    cases e
    exact ⟨_, den_tru (r1.view R1) e2, q H1 P1 Fs1 R1 E st gr⟩
  exact this
def truO (oa : Od) : Tst := fun ρ => (seqF [oa] ρ).bind fun p => match p.1 with
  | [d] => (truD d).bind fun b => some (b, p.2)
  | _ => none
theorem vt_tru {oa : Od} (ha : VO X κ a oa) (he : ∀ whole, isTrue a X.env whole = (do let v ← whole; standAt a.pos; holding [v] (truthy v)) := by intro _; rfl) : PT X a (tVT (gd X) (Ts [oa]) κ (truO oa)) :=
  (pt_truth ha.pe he).imp fun σ H Q h => O_tru (wf1 ha) h
end
/-! ### a slot's own object changed -/
section
variable {G : Wd} {P P' : Addr → Prop} {H H' : Hp} {σ : L2.St} {ρ : List D} {κ : List Nat} {Fs : Nat → List Addr} {Z : Addr → Prop} {v : V} {d : D} {F : List Addr} {k i : Nat}
theorem Rep.mut (R : Rep G P H σ ρ κ Fs) (E : Ext Z P H P' H') (hZ : ∀ j a, j ≠ i → a ∈ Fs j → ¬ Z a) (hv : σ[i]? = .some (.some v)) (o : OwnK G P' H' (κ.getD i 0) v d F) (nd : F.Nodup) (np : ∀ a ∈ F, ¬ P' a) (dj : ∀ j, j ≠ i → ∀ a ∈ F, a ∉ Fs j) : Rep G P' H' σ (ρ.set i d) κ (setF Fs i F) := by
  have hi : i < ρ.length := by
    obtain ⟨h, _⟩ := List.getElem?_eq_some_iff.mp hv
    rw [R.len] at h
    exact h
  refine ⟨by simp [R.len], by simp [R.lenk], fun j e hj hu => ?_, fun j h => ?_, fun j l a h1 h2 => ?_, fun j => ?_, fun j a m p => ?_, E.pt R.pt⟩
  · by_cases q : j = i
    · subst q
      rw [List.getElem?_set_self hi] at hj
      cases hj
      exact ⟨v, hv, by rw [setF_same]; exact o⟩
    · rw [List.getElem?_set_ne (Ne.symm q)] at hj
      obtain ⟨u, h1, h2⟩ := R.at_ j e hj hu
      exact ⟨u, h1, by rw [setF_ne q]; exact h2.ext E fun a m => hZ j a q m⟩
  · by_cases q : j = i
    · subst q
      have := h d (List.getElem?_set_self hi)
      subst this
      exact o.ne_und.elim
    · rw [setF_ne q]
      exact R.un j fun d' e => h d' (by rw [List.getElem?_set_ne (Ne.symm q)]; exact e)
  · by_cases q : j = i
    · by_cases r : l = i
      · rw [q, r]
      · rw [q, setF_same] at h1
        rw [setF_ne r] at h2
        exact absurd h2 (dj l r a h1)
    · by_cases r : l = i
      · rw [r, setF_same] at h2
        rw [setF_ne q] at h1
        exact absurd h1 (dj j q a h2)
      · rw [setF_ne q] at h1
        rw [setF_ne r] at h2
        exact R.dj j l a h1 h2
  · by_cases q : j = i
    · rw [q, setF_same]; exact nd
    · rw [setF_ne q]; exact R.nd j
  · by_cases q : j = i
    · rw [q, setF_same] at m; exact np a m p
    · rw [setF_ne q] at m
      rcases E.newP a p with z | z | z
      · exact R.np j a m z
      · obtain ⟨u, e, _⟩ := R.isM m; rw [z] at e; cases e
      · exact hZ j a q m z
/-- the step that changes slot i's own object, behind a step T -/
theorem mut_stp {T : List Nat} {P0 : Addr → Prop} {H0 : Hp} {Fs0 : Nat → List Addr} {ρ0 : List D} {σ0 : L2.St} (R0 : Rep G P0 H0 σ0 ρ0 κ Fs0) (s : Stp T P0 H0 Fs0 ρ0 P H Fs ρ) (hi : i ∉ T) (E : Ext Z P H P H') (hZ : ∀ c, Z c → c ∈ Fs i) (gr : ∀ a, a ∈ F → a ∈ Fs i ∨ H0 a = none) :
    Stp (i :: T) P0 H0 Fs0 ρ0 P H' (setF Fs i F) (ρ.set i d) := by
  have hFi := (s.st i hi).1
  refine ⟨(s.ext.more (fun c ⟨j, hj, m⟩ => ⟨j, List.mem_cons_of_mem _ hj, m⟩) (R0.zm _) (R0.zp _)).trans E fun c z => .inl ⟨i, List.mem_cons_self, hFi ▸ hZ c z⟩, fun j hj => ?_, fun j a m => ?_⟩
  · simp only [List.mem_cons, not_or] at hj
    obtain ⟨a, b⟩ := s.st j hj.2
    exact ⟨by rw [setF_ne hj.1]; exact a, by rw [List.getElem?_set_ne (Ne.symm hj.1)]; exact b⟩
  · by_cases q : j = i
    · subst q
      rw [setF_same] at m
      rcases gr a m with z | z
      · exact .inl (hFi ▸ z)
      · exact .inr z
    · rw [setF_ne q] at m; exact s.gr j a m
end
section
variable {X : Cx} {κ T U : List Nat} {k i : Nat} {f g : Sem0} {x : Str} {e a : Expr} {pos p p2 : Pos}
/-- x.append(e) -/
def appF (i : Nat) (f : Sem0) : Sem0 := fun ρ => match ρ[i]? with
  | some (.lst xs) => (f ρ).bind fun q => if xs.length < sizeLine then some (.non, q.2.set i (.lst (xs ++ [q.1]))) else none
  | _ => none
theorem ve_append (hk : κ.getD i 0 = k + 1) (hi : i ∉ T) (hN : X.N[i]? = some x) (hv : Vis X.env.scope x) (he : PE X e (tV (gd X) T κ k f)) (hd : (x == ("__debug__" : Str)) = false := by decide) (hcd : (x == ("__classdict__" : Str)) = false := by decide)
    (hbase : attributeBase (.Name x p) "append" X.env (eval (.Name x p) X.env) = eval (.Name x p) X.env := by rfl) (hline : (p2.endLine == pos.line) = true := by rfl) (hs : starEach [e] X.env = (false, eval e X.env) :: starEach [] X.env := by rfl) (hpl : (backTo pos (starEach [] X.env)).any (·.1) = false := by rfl)
    (hfew : ((backTo pos (starEach [e] X.env)).all (fun x => !x.1) && (backToKw pos (keywordEach [] X.env)).all (fun x => x.1.isSome) && decide ([e].length + ([] : List Keyword).length + (if ([] : List Keyword).isEmpty then 0 else 1) < 30)) = true := by rfl) :
    PE X (.Call (.Attribute (.Name x p) "append" p2) [e] [] pos) (tV (gd X) (i :: T) κ 0 (appF i f)) :=
  (pe_bm PySem.F.plainAttrs_list PySem.F.slot_list_append PySem.F.type_list_append mt_append (pe_var hN hv hd hcd) (pa_cons he pa_nil hs) hbase hfew hline hs hpl).imp fun σ H Q ⟨P, ρ, Fs, d, ρ', R, e, q⟩ => by
    unfold appF at e
    split at e
    case h_2 => cases e
    rename_i xs hx
    obtain ⟨⟨dy, ρ1⟩, e1, e⟩ := Option.bind_eq_some_iff.mp e
    split at e
    case isFalse => cases e
    rename_i hz
    cases e
    obtain ⟨v, hv, ow⟩ := R.at_ i _ hx (by intro z; cases z)
    rw [hk] at ow
    obtain ⟨a, acc, Gs, rfl, ha, t, eF⟩ := id ow
    refine ⟨_, hv, .inl ⟨rfl, acc, .inl (.inl ha)⟩, P, ρ, Fs, dy, ρ1, R, e1, fun y H1 P1 F Fs1 R1 oy ny fy E st gr => ?_⟩
    have s : Stp T P H Fs ρ P1 H1 Fs1 ρ1 := ⟨E, st, gr⟩
    obtain ⟨f1, f2⟩ := st i hi
    obtain ⟨v2, hv2, ow2⟩ := R1.at_ i (.lst xs) (f2.trans hx) (by intro z; cases z)
    rw [hv] at hv2
    cases hv2
    rw [hk] at ow2
    have dj : ∀ c, c ∈ Fs1 i → c ∉ F := fun c m z => (fy c z).2.2 i m
    have aF : a ∈ Fs1 i := by rw [f1, eF]; exact List.mem_cons_self
    obtain ⟨acc2, F2, b1, b2, b3, b4, b5, b6, b7⟩ := own_push ow2 (R1.nd i) (R1.np i a aF) oy ny dj
    have R2 := R1.mut (i := i) b7 (fun j c hj m z => by subst z; exact hj (R1.dj j i c m aF)) hv (by rw [hk]; exact b3) b4 (fun c m => (b5 c m).elim (R1.np i c) fun z => (fy c z).1) (fun j hj c m m' => (b5 c m).elim (fun z => hj (R1.dj j i c m' z)) fun z => (fy c z).2.2 j m')
    have s2 := mut_stp (d := .lst (xs ++ [dy])) (F := F2) R s hi b7 (fun c z => by subst z; exact aF) fun c m => (b5 c m).imp id fun z => (fy c z).2.1
    exact ⟨a, acc2, y, rfl, rfl, b1, by rw [b2]; exact hz, q .non _ P1 [] _ R2 ⟨.non, rfl⟩ List.nodup_nil (fun a m => by cases m) s2.ext s2.st s2.gr⟩
/-- x[j] = e, x a list of shared things -/
def stS (i : Nat) (f g : Sem0) : SemS := fun ρ => (f ρ).bind fun p => match p.2[i]? with
  | some (.lst xs) => (g p.2).bind fun q => match q.1 with
    | .int j => (ixN xs.length j).bind fun n => some (.nx (q.2.set i (.lst (xs.set n p.1))))
    | _ => none
  | _ => none
theorem vs_setIx {Φ κb : List Nat} {kr : Nat} {tpos : Pos} (hk : κ.getD i 0 = 1) (hi : i ∉ U) (hN : X.N[i]? = some x) (hv : Vis X.env.scope x) (he : PE X e (tV (gd X) T κ 0 f)) (hj : PE X a (tV (gd X) U κ 0 g)) (hd : (x == ("__debug__" : Str)) = false := by decide) (hcd : (x == ("__classdict__" : Str)) = false := by decide)
    (ha : ∀ v, assign (.Subscript (.Name x p) a tpos) X.env v = (do
      let ov ← holding [v] (eval (.Name x p) X.env)
      let iv ← holding [v, ov] (eval a X.env)
      standAt tpos
      holding [v, ov, iv] (setItem ov iv v)
      release [v, ov, iv] []) := by intro _; rfl)
    (hs : swapsWithSole [.Subscript (.Name x p) a tpos] e pos.line X.env = pure false := by rfl) (hw : swappedStores [.Subscript (.Name x p) a tpos] e X.env = pure none := by rfl) (h1 : (assignEach [.Subscript (.Name x p) a tpos] X.env).map (·.2) = [assign (.Subscript (.Name x p) a tpos) X.env] := by rfl) :
    PS X (.Assign [.Subscript (.Name x p) a tpos] e pos) (tS (gd X) Φ κ κ κb kr (stS i f g)) :=
  PS.imp (ps_asg he (pg_sub (pe_var hN hv hd hcd) hj set_list ha) hs hw h1) fun E σ H ⟨M, P, ρ, Fs, o, hM, R, A, e, q⟩ => by
    unfold stS at e
    obtain ⟨⟨dy, ρ1⟩, e1, e⟩ := Option.bind_eq_some_iff.mp e
    dsimp only at e
    split at e
    case h_2 => cases e
    rename_i xs hx
    obtain ⟨⟨dj, ρ2⟩, e2, e⟩ := Option.bind_eq_some_iff.mp e
    cases dj <;> try cases e
    rename_i j
    obtain ⟨n, hn, e⟩ := Option.bind_eq_some_iff.mp e
    cases e
    refine ⟨P, ρ, Fs, dy, ρ1, R, e1, fun y H1 P1 Fy Fs1 R1 oy ny fy E1 st1 gr1 => ?_⟩
    have A1 := A.step E1 gr1
    obtain ⟨v1, hv1, ow1⟩ := R1.at_ i _ hx (by intro z; cases z)
    refine ⟨v1, hv1, P1, ρ1, Fs1, _, ρ2, R1, e2, fun w H2 P2 Fw Fs2 R2 ow2 nw fw E2 st2 gr2 => ?_⟩
    have A2 := A1.step E2 gr2
    have s2 : Stp U P1 H1 Fs1 ρ1 P2 H2 Fs2 ρ2 := ⟨E2, st2, gr2⟩
    have dy2 := oy.1.ext E2
    obtain ⟨f1, f2⟩ := st2 i hi
    obtain ⟨v2, hv2, ow3⟩ := R2.at_ i _ (f2.trans hx) (by intro z; cases z)
    rw [hv1] at hv2
    cases hv2
    rw [hk] at ow3
    obtain ⟨l, vs, rfl, hl, dn, eF⟩ := ow3.of1
    have lF : l ∈ Fs2 i := by rw [eF]; exact List.mem_cons_self
    have pl := R2.np i l lF
    have E3 : Ext (fun c => c = l) P2 H2 P2 (upd H2 l (.lst (vs.set n y))) := by
      refine ⟨fun _ h => h, fun _ h => .inl h, fun c o h n => by rw [upd_ne n]; exact h, fun c h => ?_, fun c z => ?_, fun c z => ?_, fun pt c p => ?_⟩
      · by_cases q : c = l
        · rw [q, upd_same]; simp
        · rw [upd_ne q]; exact h
      · subst z; exact ⟨_, hl, trivial⟩
      · subst z; exact pl
      · have : c ≠ l := fun z => pl (z ▸ p)
        rw [upd_ne this]; exact pt c p
    have ow4 : OwnK (gd X) P2 (upd H2 l (.lst (vs.set n y))) 1 (.ref l) (.lst (xs.set n dy)) [l] := OwnK.lst1 upd_same ((dn.set n dy2).ext E3)
    have R4 := R2.mut (i := i) E3 (fun c a hc m z => by subst z; exact hc (R2.dj c i a m lF)) hv1 (by rw [hk]; exact ow4) (by simp) (fun c m => by rw [List.mem_singleton] at m; subst m; exact pl) (fun c hc a m m' => by rw [List.mem_singleton] at m; subst m; exact hc (R2.dj c i a m' lF))
    have A4 : M.At (gd X) P2 (upd H2 l (.lst (vs.set n y))) σ κ (setF Fs2 i [l]) := by
      refine ⟨A2.ext.trans E3 fun c z => ?_, A2.same, A2.kin, fun c a m => ?_, fun m hm => (A2.late m hm).trans E3.late⟩
      · subst z
        rcases A2.own i c lF with z | z
        · exact .inl ⟨i, z.1, z.2⟩
        · exact .inr z
      · by_cases z : c = i
        · subst z
          rw [setF_same, List.mem_singleton] at m
          subst m
          exact A2.own c a lF
        · rw [setF_ne z] at m
          exact A2.own c a m
    exact ⟨l, vs, j, n, rfl, int_own ow2, hl, by rw [dn.length]; exact hn, q σ _ P2 _ R4 A4⟩
/-- x.pop() -/
def popF (i : Nat) : Sem0 := fun ρ => match ρ[i]? with
  | some (.lst xs) => (xs[xs.length - 1]?).bind fun d => some (d, ρ.set i (.lst xs.dropLast))
  | _ => none
/-- x.pop(j) -/
def popAtF (i : Nat) (f : Sem0) : Sem0 := fun ρ => match ρ[i]? with
  | some (.lst xs) => (f ρ).bind fun q => match q.1 with
    | .int j => if -(2 ^ 63) ≤ j ∧ j < 2 ^ 63 then (seqIndex? j xs.length).bind fun n => (xs[n]?).bind fun d => some (d, q.2.set i (.lst (xs.eraseIdx n))) else none
    | _ => none
  | _ => none
theorem own_new {G : Wd} {P : Addr → Prop} {H : Hp} {l : Addr} {vs : List V} (pl : ¬ P l) (u : HO) (hu : IsM u) (hl : H l = some (.lst vs)) : Ext (fun c => c = l) P H P (upd H l u) := by
  refine ⟨fun _ h => h, fun _ h => .inl h, fun c o h n => by rw [upd_ne n]; exact h, fun c h => ?_, fun c z => ?_, fun c z => ?_, fun pt c p => ?_⟩
  · by_cases q : c = l
    · rw [q, upd_same]; simp
    · rw [upd_ne q]; exact h
  · subst z; exact ⟨_, hl, trivial⟩
  · subst z; exact pl
  · have : c ≠ l := fun z => pl (z ▸ p)
    rw [upd_ne this]; exact pt c p
theorem ve_popAt (hk : κ.getD i 0 = 1) (hi : i ∉ T) (hN : X.N[i]? = some x) (hv : Vis X.env.scope x) (he : PE X e (tV (gd X) T κ 0 f)) (hd : (x == ("__debug__" : Str)) = false := by decide) (hcd : (x == ("__classdict__" : Str)) = false := by decide)
    (hbase : attributeBase (.Name x p) "pop" X.env (eval (.Name x p) X.env) = eval (.Name x p) X.env := by rfl) (hline : (p2.endLine == pos.line) = true := by rfl) (hs : starEach [e] X.env = (false, eval e X.env) :: starEach [] X.env := by rfl) (hpl : (backTo pos (starEach [] X.env)).any (·.1) = false := by rfl)
    (hfew : ((backTo pos (starEach [e] X.env)).all (fun x => !x.1) && (backToKw pos (keywordEach [] X.env)).all (fun x => x.1.isSome) && decide ([e].length + ([] : List Keyword).length + (if ([] : List Keyword).isEmpty then 0 else 1) < 30)) = true := by rfl) :
    PE X (.Call (.Attribute (.Name x p) "pop" p2) [e] [] pos) (tV (gd X) (i :: T) κ 0 (popAtF i f)) :=
  (pe_bm PySem.F.plainAttrs_list PySem.F.slot_list_pop PySem.F.type_list_pop mt_popAt (pe_var hN hv hd hcd) (pa_cons he pa_nil hs) hbase hfew hline hs hpl).imp fun σ H Q ⟨P, ρ, Fs, d, ρ', R, e, q⟩ => by
    unfold popAtF at e
    split at e
    case h_2 => cases e
    rename_i xs hx
    obtain ⟨⟨dj, ρ1⟩, e1, e⟩ := Option.bind_eq_some_iff.mp e
    cases dj <;> try cases e
    rename_i j
    dsimp only at e
    split at e
    case isFalse => cases e
    rename_i hb
    obtain ⟨n, hn, e⟩ := Option.bind_eq_some_iff.mp e
    obtain ⟨dd, hdd, e⟩ := Option.bind_eq_some_iff.mp e
    cases e
    obtain ⟨v, hv, ow⟩ := R.at_ i _ hx (by intro z; cases z)
    rw [hk] at ow
    obtain ⟨a, acc, rfl, ha, dn0, eF0⟩ := ow.of1
    refine ⟨_, hv, .inl ⟨rfl, acc, .inl (.inl ha)⟩, P, ρ, Fs, _, ρ1, R, e1, fun y H1 P1 F Fs1 R1 oy ny fy E st gr => ?_⟩
    have s : Stp T P H Fs ρ P1 H1 Fs1 ρ1 := ⟨E, st, gr⟩
    obtain ⟨f1, f2⟩ := st i hi
    obtain ⟨v2, hv2, ow2⟩ := R1.at_ i (.lst xs) (f2.trans hx) (by intro z; cases z)
    rw [hv] at hv2
    cases hv2
    rw [hk] at ow2
    obtain ⟨b, vs, eb, hl, dn, eF⟩ := ow2.of1
    cases eb
    have lF : a ∈ Fs1 i := by rw [eF]; exact List.mem_cons_self
    have pl := R1.np i a lF
    obtain ⟨w, hw, dw⟩ := dn.get hdd
    have E3 := own_new (G := gd X) pl (.lst (vs.eraseIdx n)) trivial hl
    have ow4 : OwnK (gd X) P1 (upd H1 a (.lst (vs.eraseIdx n))) 1 (.ref a) (.lst (xs.eraseIdx n)) [a] := OwnK.lst1 upd_same ((dn.eraseIdx n).ext E3)
    have R4 := R1.mut (i := i) E3 (fun c b hc m z => by subst z; exact hc (R1.dj c i b m lF)) hv (by rw [hk]; exact ow4) (by simp) (fun c m => by rw [List.mem_singleton] at m; subst m; exact pl) (fun c hc b m m' => by rw [List.mem_singleton] at m; subst m; exact hc (R1.dj c i b m' lF))
    have s2 := mut_stp (d := .lst (xs.eraseIdx n)) (F := [a]) R s hi E3 (fun c z => by subst z; exact lF) fun c m => by rw [List.mem_singleton] at m; subst m; exact .inl lF
    exact ⟨a, vs, j, n, w, rfl, by rw [int_own oy], hl, hb.1, hb.2, by rw [dn.length]; exact hn, hw, q w _ P1 [] _ R4 ⟨dw.ext E3, rfl⟩ List.nodup_nil (fun a m => by cases m) s2.ext s2.st s2.gr⟩
theorem ve_pop (hk : κ.getD i 0 = 1) (hN : X.N[i]? = some x) (hv : Vis X.env.scope x) (hd : (x == ("__debug__" : Str)) = false := by decide) (hcd : (x == ("__classdict__" : Str)) = false := by decide)
    (hbase : attributeBase (.Name x p) "pop" X.env (eval (.Name x p) X.env) = eval (.Name x p) X.env := by rfl) (hline : (p2.endLine == pos.line) = true := by rfl) :
    PE X (.Call (.Attribute (.Name x p) "pop" p2) [] [] pos) (tV (gd X) [i] κ 0 (popF i)) :=
  (pe_bm0 PySem.F.plainAttrs_list PySem.F.slot_list_pop PySem.F.type_list_pop mt_pop (pe_var hN hv hd hcd) hbase hline).imp fun σ H Q ⟨P, ρ, Fs, d, ρ', R, e, q⟩ => by
    unfold popF at e
    split at e
    case h_2 => cases e
    rename_i xs hx
    obtain ⟨dd, hdd, e⟩ := Option.bind_eq_some_iff.mp e
    cases e
    obtain ⟨v, hv, ow⟩ := R.at_ i _ hx (by intro z; cases z)
    rw [hk] at ow
    obtain ⟨a, vs, rfl, hl, dn, eF⟩ := ow.of1
    have lF : a ∈ Fs i := by rw [eF]; exact List.mem_cons_self
    have pl := R.np i a lF
    obtain ⟨w, hw, dw⟩ := dn.get hdd
    have E3 := own_new (G := gd X) pl (.lst vs.dropLast) trivial hl
    have ow4 : OwnK (gd X) P (upd H a (.lst vs.dropLast)) 1 (.ref a) (.lst xs.dropLast) [a] := OwnK.lst1 upd_same (dn.dropLast.ext E3)
    have R4 := R.mut (i := i) E3 (fun c b hc m z => by subst z; exact hc (R.dj c i b m lF)) hv (by rw [hk]; exact ow4) (by simp) (fun c m => by rw [List.mem_singleton] at m; subst m; exact pl) (fun c hc b m m' => by rw [List.mem_singleton] at m; subst m; exact hc (R.dj c i b m' lF))
    have s2 := mut_stp (T := []) (d := .lst xs.dropLast) (F := [a]) R (Stp.refl [] R) (by simp) E3 (fun c z => by subst z; exact lF) fun c m => by rw [List.mem_singleton] at m; subst m; exact .inl lF
    exact ⟨_, hv, .inl ⟨rfl, vs, .inl (.inl hl)⟩, a, vs, w, rfl, rfl, hl, by rw [dn.length]; exact hw, q w _ P [] _ R4 ⟨dw.ext E3, rfl⟩ List.nodup_nil (fun a m => by cases m) s2.ext s2.st s2.gr⟩
end
end VS

set_option Elab.async false
set_option linter.all false
set_option maxRecDepth 100000
set_option maxHeartbeats 1000000
/-! sorted over data. -/
namespace VS
open PySem PySem.Spec PyProof.Rows L2
/-! ### insertion -/
def insL {α : Type} (le : α → α → Bool) (x : α) : List α → List α
  | [] => [x]
  | y :: ys => if le x y = true then x :: y :: ys else y :: insL le x ys
def sortL {α : Type} (le : α → α → Bool) : List α → List α
  | [] => []
  | x :: xs => insL le x (sortL le xs)
section
variable {α : Type} {le : α → α → Bool}
theorem insL_perm (x : α) : ∀ ys : List α, (insL le x ys).Perm (x :: ys)
  | [] => .refl _
  | y :: ys => by
    unfold insL
    split
    · exact .refl _
    · exact ((insL_perm x ys).cons y).trans (.swap x y ys)
theorem sortL_perm : ∀ xs : List α, (sortL le xs).Perm xs
  | [] => .refl _
  | x :: xs => (insL_perm x _).trans ((sortL_perm xs).cons x)
theorem insL_pw (T : PySem.W.TotalLe le) (x : α) : ∀ ys : List α, ys.Pairwise (fun a b => le a b = true) → (insL le x ys).Pairwise (fun a b => le a b = true)
  | [], _ => by simp [insL]
  | y :: ys, h => by
    obtain ⟨h1, h2⟩ := List.pairwise_cons.mp h
    unfold insL
    split
    · rename_i c
      exact List.pairwise_cons.mpr ⟨fun z hz => by
        rcases List.mem_cons.mp hz with rfl | hz
        · exact c
        · exact T.trans _ _ _ c (h1 z hz), h⟩
    · rename_i c
      refine List.pairwise_cons.mpr ⟨fun z hz => ?_, insL_pw T x ys h2⟩
      rcases List.mem_cons.mp ((insL_perm x ys).mem_iff.mp hz) with rfl | hz
      · exact (T.total z y).resolve_left c
      · exact h1 z hz
theorem sortL_pw (T : PySem.W.TotalLe le) : ∀ xs : List α, (sortL le xs).Pairwise (fun a b => le a b = true)
  | [] => .nil
  | x :: xs => insL_pw T x _ (sortL_pw T xs)
theorem insL_congr {r s : α → α → Bool} (x : α) : ∀ ys : List α, (∀ y ∈ ys, r x y = s x y) → insL r x ys = insL s x ys
  | [], _ => rfl
  | y :: ys, h => by
    unfold insL
    rw [h y List.mem_cons_self, insL_congr x ys fun z hz => h z (List.mem_cons_of_mem _ hz)]
theorem sortL_congr {r s : α → α → Bool} : ∀ xs : List α, (∀ a ∈ xs, ∀ b ∈ xs, r a b = s a b) → sortL r xs = sortL s xs
  | [], _ => rfl
  | x :: xs, h => by
    show insL r x (sortL r xs) = insL s x (sortL s xs)
    rw [sortL_congr xs fun a ha b hb => h a (List.mem_cons_of_mem _ ha) b (List.mem_cons_of_mem _ hb)]
    exact insL_congr x _ fun y hy => h x List.mem_cons_self y (List.mem_cons_of_mem _ ((sortL_perm xs).mem_iff.mp hy))
end
namespace D
mutual
theorem eq_of_eqv : ∀ (a b : D), alk a b = true → eqv a b = true → a = b
  | a, b, h, e => by
    cases a with
    | non => cases b with
      | non => rfl
      | _ => simp [alk] at h
    | bl x => cases b with
      | bl y => simp only [eqv] at e; rw [LawfulBEq.eq_of_beq e]
      | _ => simp [alk] at h
    | int x => cases b with
      | int y => simp only [eqv, decide_eq_true_eq] at e; rw [e]
      | _ => simp [alk] at h
    | str x => cases b with
      | str y => simp only [eqv, decide_eq_true_eq] at e; rw [e]
      | _ => simp [alk] at h
    | tup x => cases b with
      | tup y => simp only [eqv] at e; simp only [alk] at h; rw [eqL_of_eqv _ _ h e]
      | _ => simp [alk] at h
    | lst x => cases b with
      | lst y => simp only [eqv] at e; simp only [alk] at h; rw [eqL_of_eqv _ _ h e]
      | _ => simp [alk] at h
    | _ => simp [alk] at h
theorem eqL_of_eqv : ∀ (a b : List D), alkL a b = true → eqvL a b = true → a = b
  | [], [], _, _ => rfl
  | [], _ :: _, _, e => by simp [eqvL] at e
  | _ :: _, [], _, e => by simp [eqvL] at e
  | x :: xs, y :: ys, h, e => by
    simp only [alkL, Bool.and_eq_true] at h
    simp only [eqvL, Bool.and_eq_true] at e
    rw [eq_of_eqv x y h.1 e.1, eqL_of_eqv xs ys h.2 e.2]
end
mutual
theorem eqv_refl : ∀ (n : Nat) (a : D), fit n a = true → eqv a a = true
  | 0, _, h => by cases h
  | n + 1, und, h => by cases h
  | n + 1, dct .., h => by cases h
  | n + 1, non, _ => by simp [eqv]
  | n + 1, bl _, _ => by simp [eqv]
  | n + 1, int _, _ => by simp [eqv]
  | n + 1, str _, _ => by simp [eqv]
  | n + 1, tup xs, h => by simp only [eqv]; exact eqvL_refl n xs h
  | n + 1, lst xs, h => by simp only [eqv]; exact eqvL_refl n xs h
theorem eqvL_refl : ∀ (n : Nat) (a : List D), a.all (fit n) = true → eqvL a a = true
  | _, [], _ => by simp [eqvL]
  | n, x :: xs, h => by
    obtain ⟨h1, h2⟩ := fitL_cons h
    simp only [eqvL, eqv_refl n x h1, eqvL_refl n xs h2, Bool.and_self]
end
mutual
theorem alk_sym : ∀ (a b : D), alk a b = true → alk b a = true
  | a, b, h => by
    cases a with
    | non => cases b with
      | non => rfl
      | _ => simp [alk] at h
    | bl x => cases b with
      | bl y => rfl
      | _ => simp [alk] at h
    | int x => cases b with
      | int y => rfl
      | _ => simp [alk] at h
    | str x => cases b with
      | str y => rfl
      | _ => simp [alk] at h
    | tup x => cases b with
      | tup y => simp only [alk] at h ⊢; exact alk_symL _ _ h
      | _ => simp [alk] at h
    | lst x => cases b with
      | lst y => simp only [alk] at h ⊢; exact alk_symL _ _ h
      | _ => simp [alk] at h
    | _ => simp [alk] at h
theorem alk_symL : ∀ (a b : List D), alkL a b = true → alkL b a = true
  | [], [], _ => by simp [alkL]
  | [], _ :: _, _ => by simp [alkL]
  | _ :: _, [], _ => by simp [alkL]
  | x :: xs, y :: ys, h => by
    simp only [alkL, Bool.and_eq_true] at h ⊢
    exact ⟨alk_sym x y h.1, alk_symL xs ys h.2⟩
end
mutual
theorem tri : ∀ (n : Nat) (a b : D), fit n a = true → fit n b = true → alk a b = true → lt a b = false → lt b a = false → a = b
  | 0, _, _, h, _, _, _, _ => by cases h
  | n + 1, a, b, ha, hb, h, e1, e2 => by
    cases a with
    | non => cases b with
      | non => rfl
      | _ => simp [alk] at h
    | bl x => cases b with
      | bl y => cases x <;> cases y <;> simp_all [lt]
      | _ => simp [alk] at h
    | int x => cases b with
      | int y =>
        simp only [lt, decide_eq_false_iff_not] at e1 e2
        rw [show x = y by omega]
      | _ => simp [alk] at h
    | str x => cases b with
      | str y =>
        simp only [lt, decide_eq_false_iff_not] at e1 e2
        rw [PySem.W.str_of_cps (List.le_antisymm (List.not_lt.mp e2) (List.not_lt.mp e1))]
      | _ => simp [alk] at h
    | tup x => cases b with
      | tup y => simp only [lt] at e1 e2; simp only [alk] at h; rw [triL n _ _ ha hb h e1 e2]
      | _ => simp [alk] at h
    | lst x => cases b with
      | lst y => simp only [lt] at e1 e2; simp only [alk] at h; rw [triL n _ _ ha hb h e1 e2]
      | _ => simp [alk] at h
    | _ => simp [alk] at h
theorem triL : ∀ (n : Nat) (a b : List D), a.all (fit n) = true → b.all (fit n) = true → alkL a b = true → ltL a b = false → ltL b a = false → a = b
  | _, [], [], _, _, _, _, _ => rfl
  | _, [], _ :: _, _, _, _, e, _ => by simp [ltL] at e
  | _, _ :: _, [], _, _, _, _, e => by simp [ltL] at e
  | n, x :: xs, y :: ys, ha, hb, h, e1, e2 => by
    obtain ⟨a1, a2⟩ := fitL_cons ha
    obtain ⟨b1, b2⟩ := fitL_cons hb
    simp only [alkL, Bool.and_eq_true] at h
    simp only [ltL] at e1 e2
    by_cases c : eqv x y = true
    · have := eq_of_eqv x y h.1 c
      subst this
      rw [if_pos c] at e1 e2
      rw [triL n xs ys a2 b2 h.2 e1 e2]
    · rw [if_neg c] at e1
      by_cases c2 : eqv y x = true
      · have := eq_of_eqv y x (alk_sym _ _ h.1) c2
        subst this
        exact absurd c2 c
      · rw [if_neg c2] at e2
        have := tri n x y a1 b1 h.1 e1 e2
        subst this
        exact absurd (eqv_refl n x a1) c
end
end D
/-- the order of sorted -/
def D.le (rev : Bool) (a b : D) : Bool := if rev then !D.lt a b else !D.lt b a
def neT : D → Bool
  | .tup (_ :: _) => true
  | _ => false
def noT : D → Bool
  | .non => false
  | .tup _ => false
  | _ => true
/-- ints in tuples, to the depth n: all of one kind -/
def unI : Nat → D → Bool
  | 0, .int _ => true
  | n + 1, .tup xs => xs.all (unI n)
  | _, _ => false
def alkAll (ds : List D) : Bool := ds.all (unI 0) || ds.all (unI 1) || ds.all (unI 2) || ds.all (unI 3) || ds.all fun a => ds.all fun b => D.alk a b
def srtOk (ds : List D) : Bool := ds.all (D.fit 30) && alkAll ds && (ds.all neT || ds.all noT) && decide (ds.length ≤ sizeLine)
mutual
theorem unI_alk : ∀ (n : Nat) (a b : D), unI n a = true → unI n b = true → D.alk a b = true
  | 0, a, b, ha, hb => by
    cases a with
    | int _ => cases b with
      | int _ => rfl
      | _ => simp [unI] at hb
    | _ => simp [unI] at ha
  | n + 1, a, b, ha, hb => by
    cases a with
    | tup xs => cases b with
      | tup ys =>
        simp only [unI] at ha hb
        simp only [D.alk]
        exact unI_alkL n xs ys ha hb
      | _ => simp [unI] at hb
    | _ => simp [unI] at ha
theorem unI_alkL : ∀ (n : Nat) (xs ys : List D), xs.all (unI n) = true → ys.all (unI n) = true → D.alkL xs ys = true
  | _, [], ys, _, _ => by cases ys <;> simp [D.alkL]
  | _, _ :: _, [], _, _ => by simp [D.alkL]
  | n, x :: xs, y :: ys, ha, hb => by
    rw [List.all_cons, Bool.and_eq_true] at ha hb
    simp only [D.alkL, unI_alk n x y ha.1 hb.1, unI_alkL n xs ys ha.2 hb.2, Bool.and_self]
end
theorem alkAll_ok {ds : List D} (h : alkAll ds = true) : ∀ a ∈ ds, ∀ b ∈ ds, D.alk a b = true := by
  unfold alkAll at h
  simp only [Bool.or_eq_true] at h
  intro a ha b hb
  rcases h with (((h | h) | h) | h) | h
  · exact unI_alk 0 a b (List.all_eq_true.mp h a ha) (List.all_eq_true.mp h b hb)
  · exact unI_alk 1 a b (List.all_eq_true.mp h a ha) (List.all_eq_true.mp h b hb)
  · exact unI_alk 2 a b (List.all_eq_true.mp h a ha) (List.all_eq_true.mp h b hb)
  · exact unI_alk 3 a b (List.all_eq_true.mp h a ha) (List.all_eq_true.mp h b hb)
  · exact List.all_eq_true.mp (List.all_eq_true.mp h a ha) b hb
def sortG (rev : Bool) (ds : List D) : Option (List D) := match ds with
  | [] => some []
  | [x] => some [x]
  | _ => if srtOk ds = true then some (sortL (D.le rev) ds) else none
def sortedD (rev : Bool) : List D → Option D
  | [.lst xs] => (sortG rev xs).map .lst
  | _ => none
section
variable {G : Wd} {P P' : Addr → Prop} {H H' : Hp}
theorem DenL.mem : ∀ {vs : List V} {ds : List D}, DenL G P H vs ds → ∀ p ∈ vs.zip ds, Den G P H p.1 p.2
  | _, _, .nil, p, m => by cases m
  | _, _, .cons h r, p, m => by
    rw [List.zip_cons_cons] at m
    rcases List.mem_cons.mp m with rfl | m
    · exact h
    · exact r.mem p m
theorem DenL.of_mem : ∀ {zs : List (V × D)}, (∀ p ∈ zs, Den G P H p.1 p.2) → DenL G P H (zs.map (·.1)) (zs.map (·.2))
  | [], _ => .nil
  | z :: zs, h => .cons (h z List.mem_cons_self) (DenL.of_mem fun p m => h p (List.mem_cons_of_mem _ m))
theorem each_of : ∀ {vs : List V} {us : List Value} {ds : List D}, Vals vs us → vs.length = ds.length → PySem.W.EachIs (fun u (z : V × D) => RelV z.1 u) us (vs.zip ds)
  | _, _, [], .nil, _ => .nil
  | _, _, d :: ds, .nil, h => by cases h
  | _, _, [], .cons r t, h => by cases h
  | _, _, d :: ds, .cons r t, h => by
    rw [List.zip_cons_cons]
    exact .cons r (each_of t (by simpa using h))
theorem vals_of : ∀ {us : List Value} {zs : List (V × D)}, PySem.W.EachIs (fun u (z : V × D) => RelV z.1 u) us zs → Vals (zs.map (·.1)) us
  | _, _, .nil => .nil
  | _, _, .cons r t => .cons r (vals_of t)
theorem zip_snd : ∀ {vs : List V} {ds : List D}, vs.length = ds.length → (vs.zip ds).map (·.2) = ds
  | [], [], _ => rfl
  | [], _ :: _, h => by cases h
  | _ :: _, [], h => by cases h
  | v :: vs, d :: ds, h => by
    rw [List.zip_cons_cons, List.map_cons, zip_snd (by simpa using h)]
theorem srt_parts {ds : List D} (h : srtOk ds = true) : ds.all (D.fit 30) = true ∧ (∀ a ∈ ds, ∀ b ∈ ds, D.alk a b = true) ∧ (ds.all neT = true ∨ ds.all noT = true) ∧ ds.length ≤ sizeLine := by
  unfold srtOk at h
  simp only [Bool.and_eq_true, Bool.or_eq_true, decide_eq_true_eq] at h
  obtain ⟨⟨⟨h1, h2⟩, h3⟩, h4⟩ := h
  exact ⟨h1, alkAll_ok h2, h3, h4⟩
theorem fit_mem {n : Nat} {ds : List D} (h : ds.all (D.fit n) = true) {a : D} (m : a ∈ ds) : D.fit n a = true := List.all_eq_true.mp h a m
theorem le_eq {ds : List D} (h : srtOk ds = true) (rev : Bool) : ∀ a ∈ ds, ∀ b ∈ ds, PySem.W.dataLe rev (fun z : D => z.py) a b = D.le rev a b := by
  obtain ⟨h1, h2, _, _⟩ := srt_parts h
  intro a ha b hb
  rw [PySem.W.dataLe_eq]
  have e1 := D.py_lt 30 a b (fit_mem h1 ha) (fit_mem h1 hb) (h2 a ha b hb)
  have e2 := D.py_lt 30 b a (fit_mem h1 hb) (fit_mem h1 ha) (h2 b hb a ha)
  cases rev <;> simp only [cond, D.le, e1, e2] <;> rfl
/-- the model's order is the insertion's -/
theorem merge_eq {ds : List D} (h : srtOk ds = true) (rev : Bool) : ds.mergeSort (PySem.W.dataLe rev fun z : D => z.py) = sortL (D.le rev) ds := by
  obtain ⟨h1, h2, _, _⟩ := srt_parts h
  rw [← sortL_congr (r := PySem.W.dataLe rev fun z : D => z.py) ds (le_eq h rev)]
  have T : PySem.W.TotalLe (PySem.W.dataLe rev fun z : D => z.py) := PySem.W.sortLe_total _ rev _
  refine List.Perm.eq_of_pairwise (le := fun a b => PySem.W.dataLe rev (fun z : D => z.py) a b = true) (fun a b ha hb e1 e2 => ?_) (PySem.W.sort_pairwise T ds) (sortL_pw T ds) ((List.mergeSort_perm _ _).trans (sortL_perm ds).symm)
  have ha' : a ∈ ds := (List.mergeSort_perm _ _).mem_iff.mp ha
  have hb' : b ∈ ds := (sortL_perm ds).mem_iff.mp hb
  rw [le_eq h rev a ha' b hb'] at e1
  rw [le_eq h rev b hb' a ha'] at e2
  cases rev
  · simp only [D.le, Bool.not_eq_true', Bool.false_eq_true, if_false] at e1 e2
    exact D.tri 30 a b (fit_mem h1 ha') (fit_mem h1 hb') (h2 a ha' b hb') e2 e1
  · simp only [D.le, Bool.not_eq_true', if_true] at e1 e2
    exact D.tri 30 a b (fit_mem h1 ha') (fit_mem h1 hb') (h2 a ha' b hb') e1 e2
def rSortA (G : Wd) : List V → Hp → VK → Prop := fun vs H Q => ∃ (P : Addr → Prop) (a : Addr) (ws : List V) (ds es : List D), vs = [.ref a] ∧ SqL G.K H a ws ∧ DenL G P H ws ds ∧ sortG false ds = some es ∧
  ∀ (ys : List V) (p : Addr), DenL G P H ys es → H p = none → Q (.ref p) (upd H p (.lst ys))
theorem short_perm {α : Type} {xs ys : List α} (h : xs.Perm ys) (l : ys.length < 2) : xs = ys := by
  match ys, l with
  | [], _ => exact h.eq_nil
  | [y], _ => exact List.perm_singleton.mp h
theorem cr_sortA {X : Cx} (hu : X.A.units + 64 < cLine) : CallR X (.builtin "sorted") (rSortA (gd X)) := by
  intro pins s σ H vs us Q I r ⟨P, a, ws, ds, es, e, hs, dn, hg, q⟩
  subst e
  obtain ⟨its, rv, hl, hz⟩ := I.list hs
  rw [Vals.ref1 r]
  have l1 := rv.length
  have l2 := dn.length
  by_cases h2 : ds.length < 2
  · have he : es = ds := by
      match ds, h2 with
      | [], _ => cases hg; rfl
      | [x], _ => cases hg; rfl
    subst he
    refine SrtO.sorted_ord SrtO.swo_int hl.isList (by omega) (fun h => absurd h (by omega)) fun out h1 h3 => ?_
    have := short_perm h3.perm (by omega)
    subst this
    obtain ⟨ep, he'⟩ := PyProof.Rows.sortedAll_at s.heap out out.toArray
    exact ⟨.ref _, upd H (s.heap.objs.size + 1) (.lst ws), I.laid (t' := s.toks) (fun _ _ => PyProof.Rows.sortedAll_old) (Nat.le_succ _) ⟨hz, out, ep, rv, he'⟩, rfl, q _ _ dn (I.hok.fresh (Nat.le_succ _))⟩
  · have hk : srtOk ds = true ∧ es = sortL (D.le false) ds := by
      match ds, h2 with
      | [], h => exact absurd (by simp) h
      | [x], h => exact absurd (by simp) h
      | x :: y :: r, _ =>
        simp only [sortG] at hg
        split at hg
        · rename_i c; cases hg; exact ⟨c, rfl⟩
        · cases hg
    obtain ⟨ok, he⟩ := hk
    obtain ⟨h1, h2', h3, h4⟩ := srt_parts ok
    have zm : ∀ z ∈ ws.zip ds, z.2 ∈ ds := fun z m => (List.of_mem_zip m).2
    have en : (ws.zip ds).map (fun z : V × D => z.2.py) = ds.map D.py := by
      rw [← zip_snd l2, List.map_map, zip_snd l2]
      rfl
    refine PySem.W.sorted_data (β := V × D) (R := fun u z => RelV z.1 u) (enc := fun z => z.2.py) hl.isList (each_of rv l2) ?_ ?_ ?_ (by rw [List.length_zip]; omega) (fun z m => ?_) fun out ho eo => ?_
    · -- the items read
      have : ∀ {us : List Value} {zs : List (V × D)}, PySem.W.EachIs (fun u (z : V × D) => RelV z.1 u) us zs → (∀ z ∈ zs, Den (gd X) P H z.1 z.2 ∧ D.fit 30 z.2 = true) → PySem.W.EachIs (fun v (z : V × D) => ∃ as, Reads s.heap v z.2.py as) us zs := by
        intro us zs t
        induction t with
        | nil => intro _; exact .nil
        | cons r _ ih =>
          intro h
          obtain ⟨h5, h6⟩ := h _ List.mem_cons_self
          exact .cons (Dp.reads I _ _ _ (h5.dp h6) r) (ih fun z m => h z (List.mem_cons_of_mem _ m))
      exact this (each_of rv l2) fun z m => ⟨dn.mem z m, fit_mem h1 (zm z m)⟩
    · intro d hd d' hd'
      rw [en] at hd hd'
      obtain ⟨x, hx, rfl⟩ := List.mem_map.mp hd
      obtain ⟨y, hy, rfl⟩ := List.mem_map.mp hd'
      rw [D.py_alk 30 x y (fit_mem h1 hx) (fit_mem h1 hy)]
      exact h2' x hx y hy
    · rw [en]
      rcases h3 with h | h
      · refine .inl fun d hd => ?_
        obtain ⟨x, hx, rfl⟩ := List.mem_map.mp hd
        have := List.all_eq_true.mp h x hx
        cases x with
        | tup xs => cases xs with
          | nil => cases this
          | cons y r => exact ⟨y.py, D.pyL r, by simp only [D.py, D.pyL]⟩
        | _ => cases this
      · refine .inr fun d hd => ?_
        obtain ⟨x, hx, rfl⟩ := List.mem_map.mp hd
        have hn := List.all_eq_true.mp h x hx
        have hf := fit_mem h1 hx
        cases x <;> first | (cases hn; done) | (cases hf; done) | exact ⟨by simp [D.py], by simp [D.py]⟩
    · have := (D.py_plain 30 _ (fit_mem h1 (zm z m))).2
      omega
    · have hp : ∀ z ∈ (ws.zip ds).mergeSort (PySem.W.dataLe false fun z : V × D => z.2.py), z ∈ ws.zip ds := fun z m => (List.mergeSort_perm _ _).mem_iff.mp m
      have e2 : ((ws.zip ds).mergeSort (PySem.W.dataLe false fun z : V × D => z.2.py)).map (·.2) = es := by
        rw [PySem.W.sort_maps (r := PySem.W.dataLe false fun z : V × D => z.2.py) (s := PySem.W.dataLe false fun z : D => z.py) (fun z : V × D => z.2) (fun a _ b _ => rfl), zip_snd l2, merge_eq ok, he]
      have dn2 : DenL (gd X) P H (((ws.zip ds).mergeSort (PySem.W.dataLe false fun z : V × D => z.2.py)).map (·.1)) es := by
        rw [← e2]
        exact DenL.of_mem fun z m => dn.mem z (hp z m)
      have vl := vals_of eo
      obtain ⟨ep, he'⟩ := PyProof.Rows.sortedAll_at s.heap its out.toArray
      refine ⟨.ref _, upd H (s.heap.objs.size + 1) (.lst _), I.laid (t' := s.toks) (fun _ _ => PyProof.Rows.sortedAll_old) (Nat.le_succ _) ⟨?_, out, ep, vl, he'⟩, rfl, q _ _ dn2 (I.hok.fresh (Nat.le_succ _))⟩
      rw [dn2.length, he, (sortL_perm ds).length_eq]
      exact h4
variable {oa : Od} {k : Nat}
theorem O_sorted (ha : oa.k ≤ 1) : OpS G [oa] 1 (sortedD false) (rSortA G) := by
  intro κ P H σ ρ Fs vs ds Gs d Q R qd nd e q
  cases qd with | @cons _ _ a _ _ _ _ _ r1 qd =>
  cases qd
  cases a <;> try cases e
  simp only [sortedD] at e
  obtain ⟨es, e1, e⟩ := Option.map_eq_some_iff.mp e
  subst e
  obtain ⟨a, vs, rfl, a1, a2⟩ := r1.1.kids ha
  exact ⟨P, a, vs, _, es, rfl, a1, a2, e1, fun ys p h hp => fin_lst q hp h⟩
end
end VS

set_option Elab.async false
set_option linter.all false
set_option maxRecDepth 100000
set_option maxHeartbeats 1000000
/-! list * int; x[a][b] = x[a][b] + c. -/
namespace VS
open PySem PySem.Spec PyProof.Rows L2
section
variable {G : Wd} {P P' : Addr → Prop} {H H' : Hp} {oa ob : Od} {k : Nat}
def mulLD : List D → Option D
  | [.lst xs, .int k] => if -(2 ^ 63) ≤ k ∧ k < 2 ^ 63 ∧ xs.length * k.toNat ≤ sizeLine then some (.lst (List.replicate k.toNat xs).flatten) else none
  | _ => none
theorem O_mulL (ha : oa.k = 1) : OpS G [oa, ob] 1 mulLD (r2 rRep) := by
  intro κ P H σ ρ Fs vs ds Gs d Q R qd nd e q
  cases qd with | cons r1 qd => cases qd with | cons r2 qd =>
  cases qd
  unfold mulLD at e
  split at e
  · rename_i xs kk heq
    cases heq
    split at e
    · rename_i hz
      cases e
      have ow := r1.1
      rw [ha] at ow
      obtain ⟨a, vs, rfl, h1, dn, _⟩ := ow.of1
      exact ⟨a, kk, vs, rfl, int_own r2.1, h1, hz.1, hz.2.1, by rw [dn.length]; exact hz.2.2, fun p hp => fin_lst q hp (dn.rep _)⟩
    · cases e
  · cases e
theorem Tri.setAt {R R' : V → D → List Addr → Prop} : ∀ {vs : List V} {ds : List D} {Fs : List (List Addr)} {i : Nat} {v : V} {d : D} {F : List Addr}, Tri R vs ds Fs → vs[i]? = some v → Fs[i]? = some F → R' v d F → (∀ (j : Nat) v d F, j ≠ i → Fs[j]? = some F → R v d F → R' v d F) → Tri R' vs (ds.set i d) Fs
  | _, _, _, _, _, _, _, .nil, h, _, _, _ => by simp at h
  | _, _, _, 0, v, d, F, .cons r t, h1, h2, h3, h4 => by
    simp at h1 h2
    subst h1
    subst h2
    refine .cons h3 ?_
    have : ∀ {vs : List V} {ds : List D} {Fs : List (List Addr)}, Tri R vs ds Fs → (∀ (j : Nat) v d F, Fs[j]? = some F → R v d F → R' v d F) → Tri R' vs ds Fs := by
      intro vs ds Fs t
      induction t with
      | nil => intro _; exact .nil
      | cons r _ ih => intro h; exact .cons (h 0 _ _ _ rfl r) (ih fun j v d F e => h (j + 1) v d F (by simpa using e))
    exact this t fun j v d F e => h4 (j + 1) v d F (by omega) (by simpa using e)
  | _, _, _, i + 1, v, d, F, .cons r t, h1, h2, h3, h4 => by
    refine .cons (h4 0 _ _ _ (by omega) rfl r) (Tri.setAt (i := i) t (by simpa using h1) (by simpa using h2) h3 fun j v d F hj e => h4 (j + 1) v d F (by omega) (by simpa using e))
theorem flat_nodup {Fs : List (List Addr)} (h : Fs.flatten.Nodup) : ∀ {i j : Nat} {F F' : List Addr} {a : Addr}, Fs[i]? = some F → Fs[j]? = some F' → a ∈ F → a ∈ F' → i = j := by
  induction Fs with
  | nil => intro i j F F' a h1; simp at h1
  | cons F0 Fs ih =>
    rw [List.flatten_cons] at h
    obtain ⟨n1, n2, n3⟩ := List.nodup_append.mp h
    intro i j F F' a h1 h2 m m'
    cases i with
    | zero =>
      cases j with
      | zero => rfl
      | succ j =>
        simp at h1
        subst h1
        exact absurd rfl (n3 a m a (mem_flat (List.mem_of_getElem? (by simpa using h2)) m'))
    | succ i =>
      cases j with
      | zero =>
        simp at h2
        subst h2
        exact absurd rfl (n3 a m' a (mem_flat (List.mem_of_getElem? (by simpa using h1)) m))
      | succ j => exact congrArg (· + 1) (ih n2 (by simpa using h1) (by simpa using h2) m m')
end
section
variable {X : Cx} {κ Φ κb : List Nat} {k t a b : Nat} {x y z : Str} {pos p1 p2 p3 p4 p5 p6 p7 p8 p9 p10 p11 : Pos} {c : Int} {j0 : Nat}
def incS (t a b : Nat) (c : Int) : SemS := fun ρ => match ρ[t]?, ρ[a]?, ρ[b]? with
  | some (.lst rows), some (.int i), some (.int j) => (ixN rows.length i).bind fun n => match rows[n]? with
    | some (.lst xs) => (ixN xs.length j).bind fun m => match xs[m]? with
      | some (.int w) => some (.nx (ρ.set t (.lst (rows.set n (.lst (xs.set m (.int (w + c))))))))
      | _ => none
    | _ => none
  | _, _, _ => none
/-- x[y][z] = x[y][z] + c -/
theorem vs_inc2 (hk : κ.getD t 0 = 2) (hN : X.N[t]? = some x) (hv : Vis X.env.scope x) (hNa : X.N[a]? = some y) (hva : Vis X.env.scope y) (hNb : X.N[b]? = some z) (hvb : Vis X.env.scope z)
    (hd : (x == ("__debug__" : Str)) = false := by decide) (hcd : (x == ("__classdict__" : Str)) = false := by decide) (hd2 : (y == ("__debug__" : Str)) = false := by decide) (hcd2 : (y == ("__classdict__" : Str)) = false := by decide) (hd3 : (z == ("__debug__" : Str)) = false := by decide) (hcd3 : (z == ("__classdict__" : Str)) = false := by decide)
    (ha : ∀ v, assign (.Subscript (.Subscript (.Name x p1) (.Name y p2) p3) (.Name z p4) p5) X.env v = (do
      let ov ← holding [v] (eval (.Subscript (.Name x p1) (.Name y p2) p3) X.env)
      let iv ← holding [v, ov] (eval (.Name z p4) X.env)
      standAt p5
      holding [v, ov, iv] (setItem ov iv v)
      release [v, ov, iv] []) := by intro _; rfl)
    (hw : swappedStores [.Subscript (.Subscript (.Name x p1) (.Name y p2) p3) (.Name z p4) p5] (.BinOp (.Subscript (.Subscript (.Name x p6) (.Name y p7) p8) (.Name z p9) p10) .Add (.Constant (.int c) j0 p11) pos) X.env = pure none := by rfl)
    (h1 : (assignEach [.Subscript (.Subscript (.Name x p1) (.Name y p2) p3) (.Name z p4) p5] X.env).map (·.2) = [assign (.Subscript (.Subscript (.Name x p1) (.Name y p2) p3) (.Name z p4) p5) X.env] := by rfl) {spos : Pos}
    (hs' : swapsWithSole [.Subscript (.Subscript (.Name x p1) (.Name y p2) p3) (.Name z p4) p5] (.BinOp (.Subscript (.Subscript (.Name x p6) (.Name y p7) p8) (.Name z p9) p10) .Add (.Constant (.int c) j0 p11) pos) spos.line X.env = pure false := by rfl) :
    PS X (.Assign [.Subscript (.Subscript (.Name x p1) (.Name y p2) p3) (.Name z p4) p5] (.BinOp (.Subscript (.Subscript (.Name x p6) (.Name y p7) p8) (.Name z p9) p10) .Add (.Constant (.int c) j0 p11) pos) spos) (tS (gd X) Φ κ κ κb k (incS t a b c)) :=
  PS.imp (ps_asg (pe_op op_add (pe_ix ix_seq (pe_ix ix_seq (pe_var hN hv hd hcd) (pe_var hNa hva hd2 hcd2) (fun _ _ => rfl)) (pe_var hNb hvb hd3 hcd3) (fun _ _ => rfl)) pe_int) (pg_sub (pe_ix ix_seq (pe_var hN hv hd hcd) (pe_var hNa hva hd2 hcd2) (fun _ _ => rfl)) (pe_var hNb hvb hd3 hcd3) set_list ha) hs' hw h1) fun E σ H ⟨M, P, ρ, Fs, o, hM, R, A, e, q⟩ => by
    unfold incS at e
    split at e
    case h_2 => cases e
    rename_i rows i j ht hia hjb
    obtain ⟨n, hn, e⟩ := Option.bind_eq_some_iff.mp e
    split at e
    case h_2 => cases e
    rename_i xs hrow
    obtain ⟨m, hm, e⟩ := Option.bind_eq_some_iff.mp e
    split at e
    case h_2 => cases e
    rename_i w hw'
    cases e
    obtain ⟨v, hv1, ow⟩ := R.at_ t _ ht (by intro z; cases z)
    obtain ⟨vi, hvi, oi⟩ := R.at_ a _ hia (by intro z; cases z)
    obtain ⟨vj, hvj, oj⟩ := R.at_ b _ hjb (by intro z; cases z)
    have ei := int_own oi
    have ej := int_own oj
    subst ei
    subst ej
    rw [hk] at ow
    obtain ⟨l, vs, Gs, rfl, hl, tri, eF⟩ := id ow
    obtain ⟨vc, Fc, c1, c2, c3⟩ := tri.get hrow
    obtain ⟨lc, ws, rfl, hc, dn, eFc⟩ := c3.of1
    subst eFc
    obtain ⟨vw, w1, w2⟩ := dn.get hw'
    cases w2
    have tl := tri.length.1
    have at1 : atI vs i = some (.ref lc) := by
      unfold atI
      rw [tl, hn]
      exact c1
    have at2 : atI ws j = some (.int w) := by
      unfold atI
      rw [dn.length, hm]
      exact w1
    have ndF : (l :: Gs.flatten).Nodup := eF ▸ R.nd t
    obtain ⟨nd1, nd2⟩ := List.nodup_cons.mp ndF
    have lcF : lc ∈ Gs.flatten := mem_flat (List.mem_of_getElem? c2) (by simp)
    have lcT : lc ∈ Fs t := by rw [eF]; exact List.mem_cons_of_mem _ lcF
    have plc := R.np t lc lcT
    have hne : l ≠ lc := fun z => nd1 (by rw [z]; exact lcF)
    have E3 := own_new (G := gd X) plc (.lst (ws.set m (.int (w + c)))) trivial hc
    have ow2 : OwnK (gd X) P (upd H lc (.lst (ws.set m (.int (w + c))))) 2 (.ref l) (.lst (rows.set n (.lst (xs.set m (.int (w + c)))))) (l :: Gs.flatten) :=
      ⟨l, vs, Gs, rfl, by rw [upd_ne hne]; exact hl, tri.setAt c1 c2 (OwnK.lst1 upd_same ((dn.set m (.int _)).ext E3)) fun j v d F hj hF r => r.ext E3 fun a ma za => by
        subst za
        exact hj (flat_nodup nd2 hF c2 ma (by simp)), rfl⟩
    have R4 := R.mut (i := t) E3 (fun c a hc' ma za => by subst za; exact hc' (R.dj c t a ma lcT)) hv1 (by rw [hk]; exact ow2) (eF ▸ R.nd t) (fun a ma => R.np t a (eF ▸ ma)) (fun c hc' a ma m' => hc' (R.dj c t a m' (eF ▸ ma)))
    have A4 : M.At (gd X) P (upd H lc (.lst (ws.set m (.int (w + c))))) σ κ (setF Fs t (l :: Gs.flatten)) := by
      refine ⟨A.ext.trans E3 fun c zc => ?_, A.same, A.kin, fun c a ma => ?_, fun mm hmm => (A.late mm hmm).trans E3.late⟩
      · subst zc
        rcases A.own t c lcT with z | z
        · exact .inl ⟨t, z.1, z.2⟩
        · exact .inr z
      · by_cases zc : c = t
        · subst zc
          rw [setF_same] at ma
          exact A.own c a (eF ▸ ma)
        · rw [setF_ne zc] at ma
          exact A.own c a ma
    have ix1 : ∀ Q : VK, Q (.ref lc) H → rIx X.K (.ref l) (.int i) H Q := fun Q qq => .inl ⟨l, vs, i, _, rfl, rfl, .inl (.inl hl), at1, qq⟩
    refine ⟨_, hv1, _, hvi, ix1 _ ⟨_, hvj, .inl ⟨lc, ws, j, _, rfl, rfl, .inl (.inl hc), at2, w, c, rfl, rfl, ?_⟩⟩⟩
    refine ⟨_, hv1, _, hvi, ix1 _ ⟨_, hvj, lc, ws, j, m, rfl, rfl, hc, by rw [dn.length]; exact hm, q σ _ P _ R4 A4⟩⟩
end
end VS

set_option Elab.async false
set_option linter.all false
set_option maxRecDepth 100000
set_option maxHeartbeats 1000000
/-! Several targets at once; words in short; callees. -/
namespace VS
open PySem PySem.Spec PyProof.Rows L2
def par2 (i j : Nat) (f g : Sem0) : SemS := fun ρ => (f ρ).bind fun p => (g p.2).bind fun q => some (.nx ((q.2.set i p.1).set j q.1))
def par3 (i j l : Nat) (f g h : Sem0) : SemS := fun ρ => (f ρ).bind fun p => (g p.2).bind fun q => (h q.2).bind fun r => some (.nx (((r.2.set i p.1).set j q.1).set l r.1))
section
variable {X : Cx} {κ κb T U W Φ : List Nat} {k k1 k2 k3 i j l : Nat} {f g h : Sem0} {x y z : Str} {a b c : Expr} {pos px py pz pt pt2 : Pos} {kt kt2 : Nat}
theorem set2_at {M : Fm} {P1 : Addr → Prop} {H1 : Hp} {σ : L2.St} {ρ1 : List D} {Fs1 : Nat → List Addr} {v w : V} {d e : D} {Fv Fw : List Addr} {G : Wd} (hi : i ∉ M.Φ) (hj : j ∉ M.Φ) (hk : i < κ.length) (hk2 : j < κ.length)
    (R : Rep G P1 H1 σ ρ1 κ Fs1) (A : M.At G P1 H1 σ κ Fs1) (ov : OwnK G P1 H1 k1 v d Fv) (nv : Fv.Nodup) (fv : ∀ c ∈ Fv, (¬ P1 c ∧ ∀ i, c ∉ Fs1 i) ∧ M.H0 c = none) (ow : OwnK G P1 H1 k2 w e Fw) (nw : Fw.Nodup) (fw : ∀ c ∈ Fw, (¬ P1 c ∧ ∀ i, c ∉ Fs1 i) ∧ M.H0 c = none) (dj : ∀ c ∈ Fv, c ∉ Fw) :
    Rep G P1 H1 ((σ.set i (some v)).set j (some w)) ((ρ1.set i d).set j e) ((κ.set i k1).set j k2) (setF (setF Fs1 i Fv) j Fw) ∧ M.At G P1 H1 ((σ.set i (some v)).set j (some w)) ((κ.set i k1).set j k2) (setF (setF Fs1 i Fv) j Fw) := by
  have R1 := R.set hk ov nv (fun c m => (fv c m).1.1) fun j _ c m => (fv c m).1.2 j
  have A1 := A.set (k := k1) (v := v) hi fun c m => (fv c m).2
  refine ⟨R1.set (by simpa using hk2) ow nw (fun c m => (fw c m).1.1) fun n hn c m m' => ?_, A1.set hj fun c m => (fw c m).2⟩
  by_cases q : n = i
  · rw [q, setF_same] at m'
    exact dj c m' m
  · rw [setF_ne q] at m'
    exact (fw c m).1.2 n m'
/-- the two values of a pair -/
theorem two_ok {M : Fm} {P : Addr → Prop} {H : Hp} {σ : L2.St} {ρ ρ1 ρ2 : List D} {Fs : Nat → List Addr} {G : Wd} {d e : D} (R : Rep G P H σ ρ κ Fs) (A : M.At G P H σ κ Fs) (e1 : f ρ = some (d, ρ1)) (e2 : g ρ1 = some (e, ρ2)) {Q : List V → Hp → Prop}
    (q : ∀ v w H1 P1 Fv Fw Fs1, Rep G P1 H1 σ ρ2 κ Fs1 → M.At G P1 H1 σ κ Fs1 → OwnK G P1 H1 k1 v d Fv → Fv.Nodup → (∀ c ∈ Fv, (¬ P1 c ∧ ∀ i, c ∉ Fs1 i) ∧ M.H0 c = none) → OwnK G P1 H1 k2 w e Fw → Fw.Nodup → (∀ c ∈ Fw, (¬ P1 c ∧ ∀ i, c ∉ Fs1 i) ∧ M.H0 c = none) → (∀ c ∈ Fv, c ∉ Fw) → Q [v, w] H1) :
    argsT G κ [odE T k1 f, odE U k2 g] σ H Q := by
  have wf : WfSeq κ [odE T k1 f, odE U k2 g] := ⟨⟨fun _ h => by cases h⟩, fun _ h => (by cases h), ⟨fun _ h => by cases h⟩, fun _ h => (by cases h), trivial⟩
  refine args_ok _ wf R (ds := [d, e]) (ρ' := ρ2) (by simp only [seqF, e1, e2, Option.bind_some]) fun vs H1 P1 Gs Fs1 R1 qd nd fr E st gr => ?_
  have A1 := A.step E gr
  cases qd with
  | @cons _ v _ Fv _ _ _ _ r1 qd => cases qd with
    | @cons _ w _ Fw _ _ _ _ r2 qd =>
      cases qd
      have nd2 : (Fv ++ (Fw ++ [])).Nodup := nd
      rw [List.append_nil] at nd2
      obtain ⟨n1, n2, n3⟩ := List.nodup_append.mp nd2
      have fr2 : ∀ c ∈ Fv ++ Fw, H c = none := fun c m => fr c (by show c ∈ Fv ++ (Fw ++ []); rw [List.append_nil]; exact m)
      exact q v w H1 P1 Fv Fw Fs1 R1 A1 r1.1 n1 (fun c m => ⟨r1.2 c m, A.fresh (fr2 c (List.mem_append_left _ m))⟩) r2.1 n2 (fun c m => ⟨r2.2 c m, A.fresh (fr2 c (List.mem_append_right _ m))⟩) fun c m m' => n3 c m c m' rfl
theorem vs_par (hi0 : i ∉ Φ) (hj0 : j ∉ Φ) (hki : i < κ.length) (hkj : j < κ.length) (hij : i ≠ j) (hc : X.calm = true) (hN : X.N.Nodup) (hi : X.N[i]? = some x) (hj : X.N[j]? = some y) (hx : X.env.scope.names.lookup x = some .local) (hy : X.env.scope.names.lookup y = some .local)
    (ha : PE X a (tV (gd X) T κ k1 f)) (hb : PE X b (tV (gd X) U κ k2 g)) (hw : swappedStores [.Tuple [.Name x px, .Name y py] kt pt] (.Tuple [a, b] kt2 pt2) X.env = pure (some [x, y]))
    (hs : swapsWithSole [.Tuple [.Name x px, .Name y py] kt pt] (.Tuple [a, b] kt2 pt2) pos.line X.env = pure false := by rfl) (hs1 : starEach [a, b] X.env = (false, eval a X.env) :: starEach [b] X.env := by rfl) (hs2 : starEach [b] X.env = (false, eval b X.env) :: starEach [] X.env := by rfl) :
    PS X (.Assign [.Tuple [.Name x px, .Name y py] kt pt] (.Tuple [a, b] kt2 pt2) pos) (tS (gd X) Φ κ ((κ.set i k1).set j k2) κb k (par2 i j f g)) :=
  PS.imp (ps_par hc hN hi hj hij hx hy (pa_cons ha (pa_cons hb pa_nil hs2) hs1) hw hs) fun E σ H ⟨M, P, ρ, Fs, o, hM, R, A, e, q⟩ => by
    unfold par2 at e
    obtain ⟨⟨d, ρ1⟩, e1, e⟩ := Option.bind_eq_some_iff.mp e
    obtain ⟨⟨d2, ρ2⟩, e2, e⟩ := Option.bind_eq_some_iff.mp e
    cases e
    exact two_ok (T := T) (U := U) R A e1 e2 fun v w H1 P1 Fv Fw Fs1 R1 A1 ov nv fv ow nw fw dj => by
      obtain ⟨R2, A2⟩ := set2_at (hM ▸ hi0) (hM ▸ hj0) hki hkj R1 A1 ov nv fv ow nw fw dj
      exact ⟨v, w, rfl, q _ H1 P1 _ R2 A2⟩
theorem OwnK.new {G : Wd} {P : Addr → Prop} {H H' : Hp} {v : V} {d : D} {F : List Addr} (o : OwnK G P H k v d F) (h : ∀ a u, H a = some u → H' a = some u) : OwnK G P H' k v d F := o.ext (Ext.new h) fun _ _ z => z
theorem Fm.At.new {G : Wd} {M : Fm} {P : Addr → Prop} {H H' : Hp} {σ : L2.St} {Fs : Nat → List Addr} (A : M.At G P H σ κ Fs) (h : ∀ a u, H a = some u → H' a = some u) : M.At G P H' σ κ Fs :=
  ⟨A.ext.trans (Ext.new h) fun _ z => z.elim, A.same, A.kin, A.own, fun m hm => (A.late m hm).trans (Ext.late (Ext.new h))⟩
theorem Rep.new {G : Wd} {P : Addr → Prop} {H H' : Hp} {σ : L2.St} {ρ : List D} {Fs : Nat → List Addr} (R : Rep G P H σ ρ κ Fs) (h : ∀ a u, H a = .some u → H' a = .some u) : Rep G P H' σ ρ κ Fs := R.ext (Ext.new h) fun _ _ _ z => z
theorem vs_tup2 (hi0 : i ∉ Φ) (hj0 : j ∉ Φ) (hki : i < κ.length) (hkj : j < κ.length) (hc : X.calm = true) (hN : X.N.Nodup) (hi : X.N[i]? = some x) (hj : X.N[j]? = some y) (hx : Loc X.env.scope x) (hy : Loc X.env.scope y)
    (ha : PE X a (tV (gd X) T κ k1 f)) (hb : PE X b (tV (gd X) U κ k2 g)) (hw : swappedStores [.Tuple [.Name x px, .Name y py] kt pt] (.Tuple [a, b] kt2 pt2) X.env = pure none := by rfl)
    (hs : swapsWithSole [.Tuple [.Name x px, .Name y py] kt pt] (.Tuple [a, b] kt2 pt2) pos.line X.env = pure false := by rfl) (hs1 : starEach [a, b] X.env = (false, eval a X.env) :: starEach [b] X.env := by rfl) (hs2 : starEach [b] X.env = (false, eval b X.env) :: starEach [] X.env := by rfl)
    (hf : X.fn x = true ∨ X.env.scope.names.lookup x = some .local := by first | exact .inl rfl | exact .inr rfl) (hf2 : X.fn y = true ∨ X.env.scope.names.lookup y = some .local := by first | exact .inl rfl | exact .inr rfl)
    (hm1 : (assignEach [.Name x px, .Name y py] X.env).map (·.2) = assign (.Name x px) X.env :: (assignEach [.Name y py] X.env).map (·.2) := by rfl) (hm2 : (assignEach [.Name y py] X.env).map (·.2) = assign (.Name y py) X.env :: (assignEach [] X.env).map (·.2) := by rfl)
    (hn : (assignEach [.Name x px, .Name y py] X.env).length = 2 := by rfl) (hst : (assignEach [.Name x px, .Name y py] X.env).findIdx? (·.1) = none := by rfl) (h1 : (assignEach [.Tuple [.Name x px, .Name y py] kt pt] X.env).map (·.2) = [assign (.Tuple [.Name x px, .Name y py] kt pt) X.env] := by rfl) :
    PS X (.Assign [.Tuple [.Name x px, .Name y py] kt pt] (.Tuple [a, b] kt2 pt2) pos) (tS (gd X) Φ κ ((κ.set i k1).set j k2) κb k (par2 i j f g)) :=
  PS.imp (ps_asg (pe_tup (pa_cons ha (pa_cons hb pa_nil hs2) hs1)) (pg_tup hc (pgs_cons (pg_name hN hi hx hf) (pgs_cons (pg_name hN hj hy hf2) pgs_nil hm2) hm1) hn hst) hs hw h1) fun E σ H ⟨M, P, ρ, Fs, o, hM, R, A, e, q⟩ => by
    unfold par2 at e
    obtain ⟨⟨d, ρ1⟩, e1, e⟩ := Option.bind_eq_some_iff.mp e
    obtain ⟨⟨d2, ρ2⟩, e2, e⟩ := Option.bind_eq_some_iff.mp e
    cases e
    exact two_ok (T := T) (U := U) R A e1 e2 fun v w H1 P1 Fv Fw Fs1 R1 A1 ov nv fv ow nw fw dj => by
      refine ⟨by show 2 ≤ sizeLine; decide, fun p hp => ?_⟩
      have kp := keep_upd (u := .tup [v, w]) hp
      obtain ⟨R2, A2⟩ := set2_at (hM ▸ hi0) (hM ▸ hj0) hki hkj (R1.new kp) (A1.new kp) (ov.new kp) nv fv (ow.new kp) nw fw dj
      exact ⟨p, [v, w], rfl, .inl (.inl upd_same), rfl, v, [w], rfl, w, [], rfl, rfl, q _ _ P1 _ R2 A2⟩
/-- three -/
theorem three_ok {M : Fm} {P : Addr → Prop} {H : Hp} {σ : L2.St} {ρ ρ1 ρ2 ρ3 : List D} {Fs : Nat → List Addr} {G : Wd} {d e d3 : D} (R : Rep G P H σ ρ κ Fs) (A : M.At G P H σ κ Fs) (e1 : f ρ = some (d, ρ1)) (e2 : g ρ1 = some (e, ρ2)) (e3 : h ρ2 = some (d3, ρ3)) {Q : List V → Hp → Prop}
    (hi : i ∉ M.Φ) (hj : j ∉ M.Φ) (hl : l ∉ M.Φ) (hk : i < κ.length) (hk2 : j < κ.length) (hk3 : l < κ.length)
    (q : ∀ v w u H1 P1 Fs1, (∀ H2, (∀ a o, H1 a = some o → H2 a = some o) → Rep G P1 H2 (((σ.set i (some v)).set j (some w)).set l (some u)) (((ρ3.set i d).set j e).set l d3) (((κ.set i k1).set j k2).set l k3) Fs1 ∧ M.At G P1 H2 (((σ.set i (some v)).set j (some w)).set l (some u)) (((κ.set i k1).set j k2).set l k3) Fs1) → Q [v, w, u] H1) :
    argsT G κ [odE T k1 f, odE U k2 g, odE W k3 h] σ H Q := by
  have wf : WfSeq κ [odE T k1 f, odE U k2 g, odE W k3 h] := ⟨⟨fun _ h => by cases h⟩, fun _ h => (by cases h), ⟨fun _ h => by cases h⟩, fun _ h => (by cases h), ⟨fun _ h => by cases h⟩, fun _ h => (by cases h), trivial⟩
  refine args_ok _ wf R (ds := [d, e, d3]) (ρ' := ρ3) (by simp only [seqF, e1, e2, e3, Option.bind_some]) fun vs H1 P1 Gs Fs1 R1 qd nd fr E st gr => ?_
  have A1 := A.step E gr
  cases qd with
  | @cons _ v _ Fv _ _ _ _ r1 qd => cases qd with
    | @cons _ w _ Fw _ _ _ _ r2 qd => cases qd with
      | @cons _ u _ Fu _ _ _ _ r3 qd =>
        cases qd
        have nd2 : (Fv ++ (Fw ++ (Fu ++ []))).Nodup := nd
        rw [List.append_nil] at nd2
        obtain ⟨n1, n23, n4⟩ := List.nodup_append.mp nd2
        obtain ⟨n2, n3, n5⟩ := List.nodup_append.mp n23
        have fr2 : ∀ c ∈ Fv ++ (Fw ++ Fu), H c = none := fun c m => fr c (by show c ∈ Fv ++ (Fw ++ (Fu ++ [])); rw [List.append_nil]; exact m)
        have frv : ∀ c ∈ Fv, (¬ P1 c ∧ ∀ i, c ∉ Fs1 i) ∧ M.H0 c = none := fun c m => ⟨r1.2 c m, A.fresh (fr2 c (List.mem_append_left _ m))⟩
        have frw : ∀ c ∈ Fw, (¬ P1 c ∧ ∀ i, c ∉ Fs1 i) ∧ M.H0 c = none := fun c m => ⟨r2.2 c m, A.fresh (fr2 c (List.mem_append_right _ (List.mem_append_left _ m)))⟩
        have fru : ∀ c ∈ Fu, (¬ P1 c ∧ ∀ i, c ∉ Fs1 i) ∧ M.H0 c = none := fun c m => ⟨r3.2 c m, A.fresh (fr2 c (List.mem_append_right _ (List.mem_append_right _ m)))⟩
        obtain ⟨R2, A2⟩ := set2_at hi hj hk hk2 R1 A1 r1.1 n1 frv r2.1 n2 frw fun c m m' => n4 c m c (List.mem_append_left _ m') rfl
        have R3 := R2.set (i := l) (by simpa using hk3) r3.1 n3 (fun c m => (fru c m).1.1) fun n hn c m m' => by
          by_cases qj : n = j
          · rw [qj, setF_same] at m'
            exact n5 c m' c m rfl
          · rw [setF_ne qj] at m'
            by_cases qi : n = i
            · rw [qi, setF_same] at m'
              exact n4 c m' c (List.mem_append_right _ m) rfl
            · rw [setF_ne qi] at m'
              exact (fru c m).1.2 n m'
        have A3 := A2.set (k := k3) (v := u) hl fun c m => (fru c m).2
        exact q v w u H1 P1 _ fun H2 kp => ⟨R3.new kp, A3.new kp⟩
theorem vs_par3 (hi0 : i ∉ Φ) (hj0 : j ∉ Φ) (hl0 : l ∉ Φ) (hki : i < κ.length) (hkj : j < κ.length) (hkl : l < κ.length) (hij : i ≠ j) (hil : i ≠ l) (hjl : j ≠ l) (hc : X.calm = true) (hN : X.N.Nodup) (hi : X.N[i]? = some x) (hj : X.N[j]? = some y) (hl : X.N[l]? = some z) (hx : X.env.scope.names.lookup x = some .local) (hy : X.env.scope.names.lookup y = some .local) (hz : X.env.scope.names.lookup z = some .local)
    (ha : PE X a (tV (gd X) T κ k1 f)) (hb : PE X b (tV (gd X) U κ k2 g)) (hcc : PE X c (tV (gd X) W κ k3 h)) (hw : swappedStores [.Tuple [.Name x px, .Name y py, .Name z pz] kt pt] (.Tuple [a, b, c] kt2 pt2) X.env = pure (some [x, y, z]))
    (hs : swapsWithSole [.Tuple [.Name x px, .Name y py, .Name z pz] kt pt] (.Tuple [a, b, c] kt2 pt2) pos.line X.env = pure false := by rfl) (hs1 : starEach [a, b, c] X.env = (false, eval a X.env) :: starEach [b, c] X.env := by rfl) (hs2 : starEach [b, c] X.env = (false, eval b X.env) :: starEach [c] X.env := by rfl) (hs3 : starEach [c] X.env = (false, eval c X.env) :: starEach [] X.env := by rfl) :
    PS X (.Assign [.Tuple [.Name x px, .Name y py, .Name z pz] kt pt] (.Tuple [a, b, c] kt2 pt2) pos) (tS (gd X) Φ κ (((κ.set i k1).set j k2).set l k3) κb k (par3 i j l f g h)) :=
  PS.imp (ps_par3 hc hN hi hj hl hij hil hjl hx hy hz (pa_cons ha (pa_cons hb (pa_cons hcc pa_nil hs3) hs2) hs1) hw hs) fun E σ H ⟨M, P, ρ, Fs, o, hM, R, A, e, q⟩ => by
    unfold par3 at e
    obtain ⟨⟨d, ρ1⟩, e1, e⟩ := Option.bind_eq_some_iff.mp e
    obtain ⟨⟨d2, ρ2⟩, e2, e⟩ := Option.bind_eq_some_iff.mp e
    obtain ⟨⟨d3, ρ3⟩, e3, e⟩ := Option.bind_eq_some_iff.mp e
    cases e
    exact three_ok (T := T) (U := U) (W := W) R A e1 e2 e3 (hM ▸ hi0) (hM ▸ hj0) (hM ▸ hl0) hki hkj hkl fun v w u H1 P1 Fs1 z => by
      obtain ⟨R2, A2⟩ := z H1 fun _ _ h => h
      exact ⟨v, w, u, rfl, q _ H1 P1 _ R2 A2⟩
theorem vs_tup3 (hi0 : i ∉ Φ) (hj0 : j ∉ Φ) (hl0 : l ∉ Φ) (hki : i < κ.length) (hkj : j < κ.length) (hkl : l < κ.length) (hc : X.calm = true) (hN : X.N.Nodup) (hi : X.N[i]? = some x) (hj : X.N[j]? = some y) (hl : X.N[l]? = some z) (hx : Loc X.env.scope x) (hy : Loc X.env.scope y) (hz : Loc X.env.scope z)
    (ha : PE X a (tV (gd X) T κ k1 f)) (hb : PE X b (tV (gd X) U κ k2 g)) (hcc : PE X c (tV (gd X) W κ k3 h)) (hw : swappedStores [.Tuple [.Name x px, .Name y py, .Name z pz] kt pt] (.Tuple [a, b, c] kt2 pt2) X.env = pure none := by rfl)
    (hs : swapsWithSole [.Tuple [.Name x px, .Name y py, .Name z pz] kt pt] (.Tuple [a, b, c] kt2 pt2) pos.line X.env = pure false := by rfl) (hs1 : starEach [a, b, c] X.env = (false, eval a X.env) :: starEach [b, c] X.env := by rfl) (hs2 : starEach [b, c] X.env = (false, eval b X.env) :: starEach [c] X.env := by rfl) (hs3 : starEach [c] X.env = (false, eval c X.env) :: starEach [] X.env := by rfl)
    (hf : X.fn x = true ∨ X.env.scope.names.lookup x = some .local := by first | exact .inl rfl | exact .inr rfl) (hf2 : X.fn y = true ∨ X.env.scope.names.lookup y = some .local := by first | exact .inl rfl | exact .inr rfl) (hf3 : X.fn z = true ∨ X.env.scope.names.lookup z = some .local := by first | exact .inl rfl | exact .inr rfl)
    (hm1 : (assignEach [.Name x px, .Name y py, .Name z pz] X.env).map (·.2) = assign (.Name x px) X.env :: (assignEach [.Name y py, .Name z pz] X.env).map (·.2) := by rfl) (hm2 : (assignEach [.Name y py, .Name z pz] X.env).map (·.2) = assign (.Name y py) X.env :: (assignEach [.Name z pz] X.env).map (·.2) := by rfl) (hm3 : (assignEach [.Name z pz] X.env).map (·.2) = assign (.Name z pz) X.env :: (assignEach [] X.env).map (·.2) := by rfl)
    (hn : (assignEach [.Name x px, .Name y py, .Name z pz] X.env).length = 3 := by rfl) (hst : (assignEach [.Name x px, .Name y py, .Name z pz] X.env).findIdx? (·.1) = none := by rfl) (h1 : (assignEach [.Tuple [.Name x px, .Name y py, .Name z pz] kt pt] X.env).map (·.2) = [assign (.Tuple [.Name x px, .Name y py, .Name z pz] kt pt) X.env] := by rfl) :
    PS X (.Assign [.Tuple [.Name x px, .Name y py, .Name z pz] kt pt] (.Tuple [a, b, c] kt2 pt2) pos) (tS (gd X) Φ κ (((κ.set i k1).set j k2).set l k3) κb k (par3 i j l f g h)) :=
  PS.imp (ps_asg (pe_tup (pa_cons ha (pa_cons hb (pa_cons hcc pa_nil hs3) hs2) hs1)) (pg_tup hc (pgs_cons (pg_name hN hi hx hf) (pgs_cons (pg_name hN hj hy hf2) (pgs_cons (pg_name hN hl hz hf3) pgs_nil hm3) hm2) hm1) hn hst) hs hw h1) fun E σ H ⟨M, P, ρ, Fs, o, hM, R, A, e, q⟩ => by
    unfold par3 at e
    obtain ⟨⟨d, ρ1⟩, e1, e⟩ := Option.bind_eq_some_iff.mp e
    obtain ⟨⟨d2, ρ2⟩, e2, e⟩ := Option.bind_eq_some_iff.mp e
    obtain ⟨⟨d3, ρ3⟩, e3, e⟩ := Option.bind_eq_some_iff.mp e
    cases e
    exact three_ok (T := T) (U := U) (W := W) R A e1 e2 e3 (hM ▸ hi0) (hM ▸ hj0) (hM ▸ hl0) hki hkj hkl fun v w u H1 P1 Fs1 z => by
      refine ⟨by show 3 ≤ sizeLine; decide, fun p hp => ?_⟩
      obtain ⟨R2, A2⟩ := z _ (keep_upd (u := .tup [v, w, u]) hp)
      exact ⟨p, [v, w, u], rfl, .inl (.inl upd_same), rfl, v, [w, u], rfl, w, [u], rfl, u, [], rfl, rfl, q _ _ P1 _ R2 A2⟩
end
/-! ### words in short -/
theorem zero_out {Φ κ : List Nat} (h : ((List.range κ.length).all fun i => Φ.contains i || κ.getD i 0 == 0) = true) : ∀ i, i ∉ Φ → κ.getD i 0 = 0 := fun i hi => by
  by_cases c : i < κ.length
  · have := List.all_eq_true.mp h i (List.mem_range.mpr c)
    rw [Bool.or_eq_true] at this
    rcases this with z | z
    · exact absurd (by simpa using z) hi
    · exact LawfulBEq.eq_of_beq z
  · rw [List.getD_eq_getElem?_getD, List.getElem?_eq_none (by omega)]
    rfl
section
variable {X : Cx} {κ : List Nat} {x : Str} {pos : Pos}
theorem xv (i : Nat) (hk : κ.getD i 0 = 0 := by decide) (hN : X.N[i]? = some x := by rfl) (hv : Vis X.env.scope x := by first | exact Or.inl rfl | exact Or.inr (Or.inl rfl) | exact Or.inr (Or.inr rfl)) (hd : (x == ("__debug__" : Str)) = false := by decide) (hcd : (x == ("__classdict__" : Str)) = false := by decide) : PE X (.Name x pos) (tV (gd X) [] κ 0 (rd i)) := ve_var hk hN hv hd hcd
theorem xo (i : Nat) (hN : X.N[i]? = some x := by rfl) (hv : Vis X.env.scope x := by first | exact Or.inl rfl | exact Or.inr (Or.inl rfl) | exact Or.inr (Or.inr rfl)) (hd : (x == ("__debug__" : Str)) = false := by decide) (hcd : (x == ("__classdict__" : Str)) = false := by decide) : VO X κ (.Name x pos) (odS κ i) := vo_var hN hv hd hcd
/-- a def that may be called -/
structure CalD (P : Program) (w : World) (K : PySem.W.Frag) (mg : Str → Option Value) (base : Heap) (lv : Nat) (x : Str) (sp : Sp) : Prop where
  ex : ∃ (f : Addr) (fd : FuncData) (ps : List Str), FnOk P w K mg base CX0 lv f fd ps sp ∧ mg x = some (.ref f) ∧ PySem.W.keepIn K (.ref f) = true ∧ Binds K fd ps []
variable {p : Pos} {e : Expr} {es : List Expr} {k lv : Nat} {os : List Od} {Tc κp : List Nat} {fn : Sem0}
theorem CalD.mono {P : Program} {w : World} {K : PySem.W.Frag} {mg : Str → Option Value} {base : Heap} {lv lv' : Nat} {x : Str} {sp : Sp} (C : CalD P w K mg base lv x sp) (h : lv ≤ lv') : CalD P w K mg base lv' x sp :=
  let ⟨f, fd, ps, F, a, b, c⟩ := C.ex; ⟨f, fd, ps, F.mono h, a, b, c⟩
theorem ve_fn (C : CalD X.prog X.w X.K X.mg X.base lv x (spD (gd X) Tc κp k fn)) (hr : Room lv X.A) (ha : VA X κ (e :: es) os) (hg : Gl X x := by rfl) (hκ : os.map (·.k) = κp := by rfl) (nd : (alS os).Nodup := by decide) (hdb : (x == ("__debug__" : Str)) = false := by decide) (he : starEach (e :: es) X.env = (false, eval e X.env) :: starEach es X.env := by rfl) (hpl : (backTo pos (starEach es X.env)).any (·.1) = false := by rfl) :
    PE X (.Call (.Name x p) (e :: es) [] pos) (tV (gd X) (Ts os ++ alS os) κ k (callF os fn)) :=
  let ⟨f, fd, ps, F, a, b, c⟩ := C.ex; ve_call F hr hg a b c ha hκ nd hdb he hpl
end
/-- the law's own promise out of what it computes -/
theorem sp_of {K : PySem.W.Frag} {P : Program} {w : World} {F : Sem0} (T : ∀ ns : List Int, ns.length ≤ 63 → ∃ ρ, F [.lst (ns.map D.int)] = some (.bl true, ρ)) (vs : List V) (H : Hp) (Q : VK) (E : XK)
    (h : ∃ (a : Addr) (ns : List Int), vs = [.ref a] ∧ SqL K H a (ns.map V.int) ∧ ns.length ≤ 63 ∧ ∀ H', Q (.bl true) H') : spD ⟨K, P, w⟩ [] [0] 0 F vs H Q E := by
  obtain ⟨a, ns, rfl, hs, hl, q⟩ := h
  obtain ⟨ρ, e⟩ := T ns hl
  let P0 : Addr → Prop := fun c => c = a ∧ H a = some (.lst (ns.map V.int))
  have dl : ∀ ms : List Int, DenL ⟨K, P, w⟩ P0 H (ms.map V.int) (ms.map D.int) := fun ms => by
    induction ms with
    | nil => exact .nil
    | cons m ms ih => exact .cons (.int m) ih
  have dn : Den ⟨K, P, w⟩ P0 H (.ref a) (.lst (ns.map D.int)) := by
    refine .lst ?_ (dl ns)
    rcases hs with (hs | hs) | hs
    · exact .inl ⟨⟨rfl, hs⟩, hs⟩
    · exact .inr (.inl hs)
    · exact .inr (.inr hs)
  refine ⟨P0, [.lst (ns.map D.int)], fun _ => [], .bl true, ρ, ⟨rfl, rfl, fun i d hi hu => ?_, fun _ _ => rfl, fun _ _ _ h _ => (by cases h), fun _ => List.nodup_nil, fun _ _ h => (by cases h), fun c hc => ⟨.lst (ns.map V.int), by rw [hc.1]; exact hc.2, trivial⟩⟩, e, fun v H' P' F' Fs' R o nd fr E st gr => ?_⟩
  · cases i with
    | zero =>
      cases hi
      exact ⟨.ref a, rfl, dn, rfl⟩
    | succ i => simp at hi
  · rw [(bl_own o).1]
    exact q H'
end VS

set_option Elab.async false
set_option linter.all false
set_option maxRecDepth 100000
set_option maxHeartbeats 2000000
/-! x[::-1] of lists and tuples. -/
namespace VS
open PySem PySem.Spec PyProof.Rows L2 HT
section
variable {prog : Program} {w : World} {A : Around} {E : Value → Shared → Prop} {s : Shared}
theorem adjust_rev (n : Nat) : Builtin.Slice.sliceAdjust none none (-1) (n : Int) = ((n : Int) - 1, -1) := by
  unfold Builtin.Slice.sliceAdjust
  simp
theorem places_rev (n : Nat) : Builtin.Slice.slicePlaces ((n : Int) - 1) (-1) (-1) = n := by
  unfold Builtin.Slice.slicePlaces
  have h1 : ¬ ((-1 : Int) > 0) := by omega
  simp only [h1, if_false]
  by_cases h : (n : Int) - 1 > -1
  · rw [if_pos h]
    have : ((n : Int) - 1 - -1 - 1) / (- -1) + 1 = n := by
      rw [show (- -1 : Int) = 1 by decide, Int.ediv_one]
      omega
    rw [this]
    omega
  · rw [if_neg h]
    omega
theorem sliceApplied_rev {sl : Addr} {vs : Value} {n : Nat} {Q : Int × Int × Nat → Shared → Prop} (hs : s.heap.IsSliceOf sl .none .none vs) (ps : IsPart vs (some (-1)))
    (h : Q ((n : Int) - 1, -1, n) s) : wpAny (model prog w) A (Builtin.Slice.sliceApplied (.ref sl) (pure (n : Int))) Q E s := by
  obtain ⟨os, hos, hcs, hds⟩ := id hs
  unfold Builtin.Slice.sliceApplied Builtin.Slice.sliceFields
  refine wpAny_bind (wpAny_bind (wpAny_field hos hds (x := .none) rfl (wpAny_bind (wpAny_field hos hds (x := .none) rfl (wpAny_bind (wpAny_field hos hds (x := vs) rfl (wpAny_pure ?_)))))))
  refine wpAny_bind (slicePart_ ps ?_)
  show wpAny _ _ (if ((-1 : Int) == 0) = true then _ else _) _ _ s
  rw [if_neg (by decide)]
  refine wpAny_bind (slicePart_none (wpAny_bind (slicePart_none (wpAny_bind (wpAny_pure ?_)))))
  show wpAny _ _ (match Builtin.Slice.sliceAdjust none none (-1) (n : Int) with | (lo, hi) => pure (lo, (-1 : Int), Builtin.Slice.slicePlaces lo hi (-1))) _ _ s
  rw [adjust_rev]
  show wpAny _ _ (pure ((n : Int) - 1, (-1 : Int), Builtin.Slice.slicePlaces ((n : Int) - 1) (-1) (-1))) _ _ s
  rw [places_rev]
  exact wpAny_pure h
theorem filterMap_eq {α β : Type} {f g : α → Option β} : ∀ {l : List α}, (∀ x, x ∈ l → f x = g x) → l.filterMap f = l.filterMap g
  | [], _ => rfl
  | x :: xs, h => by
    rw [List.filterMap_cons, List.filterMap_cons, h x List.mem_cons_self, filterMap_eq fun y m => h y (List.mem_cons_of_mem _ m)]
theorem pick_rev (xs : Array Value) : ((List.range xs.size).filterMap fun (m : Nat) => xs[(((xs.size : Nat) : Int) - 1 + (m : Int) * (-1)).toNat]?).toArray = xs.toList.reverse.toArray := by
  have e : (List.range xs.size).filterMap (fun (m : Nat) => xs[(((xs.size : Nat) : Int) - 1 + (m : Int) * (-1)).toNat]?) = ((List.range xs.size).map fun k => xs.size - 1 - k).filterMap (xs[·]?) := by
    rw [List.filterMap_map]
    apply filterMap_eq
    intro m hm
    have := List.mem_range.mp hm
    have e2 : (((xs.size : Nat) : Int) - 1 + (m : Int) * (-1)).toNat = xs.size - 1 - m := by omega
    rw [e2]
    rfl
  rw [e, PySem.W.krv_range, List.filterMap_reverse, PySem.W.krv_all]
theorem getItem_tuple_rev {t sl : Addr} {items : Array Value} {vs : Value} {Q : Value → Shared → Prop} (ht : IsTup s.heap t items) (hs : s.heap.IsSliceOf sl .none .none vs) (ps : IsPart vs (some (-1)))
    (h : Q (.ref s.heap.objs.size) { s with heap := s.heap.push { cls := .type "tuple", data := .seq items.toList.reverse.toArray } }) (hsz : items.size ≤ sizeLine) : wpAny (model prog w) A (getItem (.ref t) (.ref sl)) Q E s := by
  have htake : sizeOk (.seq items.toList.reverse.toArray) := by
    show items.toList.reverse.toArray.size ≤ sizeLine
    rw [List.size_toArray, List.length_reverse, Array.length_toList]
    exact hsz
  obtain ⟨os, hos, hcs, hds⟩ := id hs
  have hTs : s.TypeIs (.ref sl) "slice" := ⟨os, hos, hcs⟩
  unfold getItem
  try with_reducible refine wpAny_holding ?_
  first | refine wpAny_bind (wpAny_pure ?_) | skip
  refine wpAny_bind (wpAny_sequenceKey ht.typeIs (by decide) ?_)
  refine wpAny_bind (wpAny_callSpecial?_slot (name := Str.ofString "__getitem__") ht.typeIs PyProof.Rows.slot_tuple_getitem
    (wpAny_call_entry PyProof.Rows.slot_tuple_getitem ht.typeIs entry_tuple_getitem ?_ (args_tuple_getitem _ _)))
  show wpAny _ _ (Builtin.Tuple.tupleItemsOf (.ref t) >>= _) _ _ s
  refine wpAny_bind (tupleItemsOf_ ht ?_)
  refine wpAny_bind (wpAny_typeOf hTs ?_)
  rw [if_pos (by decide)]
  refine wpAny_bind (sliceApplied_rev hs ps ?_)
  have hno : ¬ ((((items.size : Nat) : Int) - 1 == 0 && (-1 : Int) == 1 && items.size == items.size) = true) := by
    intro q
    rw [Bool.and_eq_true, Bool.and_eq_true] at q
    have q1 : (-1 : Int) = 1 := LawfulBEq.eq_of_beq q.1.2
    omega
  show wpAny _ _ (if (((items.size : Nat) : Int) - 1 == 0 && (-1 : Int) == 1 && items.size == items.size) = true then _ else _) _ _ s
  rw [if_neg hno, pick_rev]
  first
    | exact wpAny_bind (m := Builtin.Tuple.tupleExact _) (wpAny_newObj_type (wpAny_pure ⟨_, rfl, wpAny_pure h⟩) htake)
    | exact wpAny_bind (m := Builtin.Tuple.tupleExact _) (wpAny_newObj_type (wpAny_bind (wpAny_pure (wpAny_pure ⟨_, rfl, wpAny_pure h⟩))) htake)
    | exact wpAny_bind (wpAny_bind (m := Builtin.Tuple.tupleExact _) (wpAny_newObj_type (wpAny_pure (wpAny_pure ⟨_, rfl, wpAny_pure h⟩)) htake))
    | exact wpAny_bind (wpAny_bind (m := Builtin.Tuple.tupleExact _) (wpAny_newObj_type (wpAny_pure ⟨_, rfl, wpAny_pure h⟩) htake))
end
def rRevS (K : PySem.W.Frag) : V → Hp → VK → Prop := fun x H Q => ∃ a xs, x = .ref a ∧ ((SqL K H a xs ∧ ∀ p, H p = none → Q (.ref p) (upd H p (.lst xs.reverse))) ∨ (SqT K H a xs ∧ ∀ p, H p = none → Q (.ref p) (upd H p (.tup xs.reverse))))
section
variable {X : Cx} {e : Expr} {te : TE} {pos p2 p3 p4 : Pos} {j : Nat}
theorem pe_revS (he : PE X e te) : PE X (.Subscript e (.Slice none none (some (.UnaryOp .USub (.Constant (.int 1) j p4) p3)) p2) pos) (tUn (rRevS X.K) te) := by
  have hneg : PO X (some (.UnaryOp .USub (.Constant (.int 1) j p4) p3)) (tPart (tUn (rU fun i => .int (-i)) (tC (.int 1)))) := po_some (pe_un un_neg pe_int)
  refine ⟨fun pins s σ H Q I h => ?_⟩
  refine Subscript_ (thn (he.run pins s σ H _ I h) fun v s1 ⟨x, H1, I1, r1, a, xs, ex, q1⟩ => ?_)
  subst ex
  refine wpAny_Slice ?_
  rw [evalPart_none]
  refine wpAny_pure (wpAny_pure ?_)
  refine thn (hneg.run pins s1 σ H1 (fun o H' => o = some (-1) ∧ H' = H1) I1 ⟨1, rfl, -1, rfl, rfl, rfl⟩) fun vs s3 ⟨o, H3, I3, ps, e3, e4⟩ => ?_
  subst e3
  subst e4
  cases r1
  have I4 : Inv X pins σ H3 { s3 with heap := s3.heap.push { cls := .type "slice", data := .fields #[.none, .none, vs] } } := I3.kept (t' := s3.toks) fun b ob q => Heap.get?_push_of_some _ q
  show wpAny (model X.prog X.w) X.A (subscriptTail e (.Slice none none (some (.UnaryOp .USub (.Constant (.int 1) j p4) p3)) p2) (.ref a) (.ref s3.heap.objs.size)) (EP X pins σ Q) X.xe { s3 with heap := s3.heap.push { cls := .type "slice", data := .fields #[.none, .none, vs] } }
  rcases q1 with ⟨hq, q⟩ | ⟨hq, q⟩
  · obtain ⟨its, rv, pl, hz⟩ := I4.list hq
    have l1 := rv.length
    refine tail_any (ops := [.ref a, .ref s3.heap.objs.size]) pl.isList.typeIs slot_list_getitem.lookup (wpAny_getItem_list_slice pl.isList (Heap.IsSliceOf.new ..) .none .none ps (by decide) ?_ (by simp only [List.size_toArray]; omega)) (by with_unfolding_all rfl)
    rw [PySem.W.krv_pick]
    exact ⟨.ref _, _, I4.lnew (t' := s3.toks) (rv.reverse) (by rw [List.length_reverse]; exact hz), rfl, q _ I4.fresh⟩
  · obtain ⟨its, rv, pl, hz⟩ := I4.tuple hq
    have l1 := rv.length
    refine tail_any (ops := [.ref a, .ref s3.heap.objs.size]) pl.typeIs PyProof.Rows.slot_tuple_getitem.lookup (getItem_tuple_rev pl (Heap.IsSliceOf.new ..) ps ?_ (by simp only [List.size_toArray]; omega)) (by with_unfolding_all rfl)
    refine ⟨.ref _, _, I4.laid (t' := s3.toks) (o := .tup xs.reverse) (fun b ob q => Heap.get?_push_of_some _ q) (Nat.le_refl _) ⟨by rw [List.length_reverse]; exact hz, its.reverse, rv.reverse, IsTup.new _ _⟩, rfl, q _ I4.fresh⟩
end
def slRD : List D → Option D
  | [.lst xs] => some (.lst xs.reverse)
  | [.tup xs] => some (.tup xs.reverse)
  | _ => none
section
variable {X : Cx} {κ : List Nat} {a : Expr} {oa : Od} {pos p2 p3 p4 : Pos} {j : Nat}
theorem O_rev {G : Wd} (ha : oa.k ≤ 1) : OpS G [oa] 1 slRD (r1v (rRevS G.K)) := by
  intro κ P H σ ρ Fs vs ds Gs d Q R qd nd e q
  cases qd with | @cons _ _ a _ _ _ _ _ r1 qd =>
  cases qd
  cases a <;> try cases e
  · obtain ⟨a, vs, rfl, a1, a2⟩ := r1.1.tupI
    exact ⟨a, vs, rfl, .inr ⟨a1, fun p hp => fin_tup q hp a2.reverse⟩⟩
  · obtain ⟨a, vs, rfl, a1, a2⟩ := r1.1.kids ha
    exact ⟨a, vs, rfl, .inl ⟨a1, fun p hp => fin_lst q hp a2.reverse⟩⟩
theorem ve_slR (ha : VO X κ a oa) (h : oa.k ≤ 1) : PE X (.Subscript a (.Slice none none (some (.UnaryOp .USub (.Constant (.int 1) j p4) p3)) p2) pos) (tV (gd X) (Ts [oa]) κ 1 (opF slRD [oa])) :=
  (pe_revS ha.pe).imp fun σ H Q w => op_ok (wf1 ha) (O_rev h) w
end
end VS

set_option Elab.async false
set_option linter.all false
set_option maxRecDepth 100000
/-! min and max of three ints. -/
namespace VS
open PySem PySem.Spec PyProof.Rows L2
theorem vals3y {x y z : V} {us : List Value} (r : Vals [x, y, z] us) : ∃ u w' t', us = [u, w', t'] ∧ RelV x u ∧ RelV y w' ∧ RelV z t' := by
  cases r with | cons r1 r => cases r with | cons r2 r => cases r with | cons r3 r =>
  cases r
  exact ⟨_, _, _, rfl, r1, r2, r3⟩
def mx3 (a b c : Int) : Int := if c > (if b > a then b else a) then c else (if b > a then b else a)
def mn3 (a b c : Int) : Int := if c < (if b < a then b else a) then c else (if b < a then b else a)
theorem call_max3 {X : Cx} (hc : X.calm = true) : CallR X (.builtin "max") (fun xs H Q => ∃ i j k, xs = [.int i, .int j, .int k] ∧ Q (.int (mx3 i j k)) H) := by
  intro pins s σ H xs us Q I r h
  obtain ⟨i, j, k, rfl, q⟩ := h
  obtain ⟨u, w', t', rfl, ⟨t1, rfl⟩, ⟨t2, rfl⟩, ⟨t3, rfl⟩⟩ := vals3y r
  refine max_three_ints (I.ok.hd hc) fun h' tk kk => ⟨_, H, I.kept kk, ?_, q⟩
  unfold mx3
  split <;> split <;> exact ⟨_, rfl⟩
theorem call_min3 {X : Cx} (hc : X.calm = true) : CallR X (.builtin "min") (fun xs H Q => ∃ i j k, xs = [.int i, .int j, .int k] ∧ Q (.int (mn3 i j k)) H) := by
  intro pins s σ H xs us Q I r h
  obtain ⟨i, j, k, rfl, q⟩ := h
  obtain ⟨u, w', t', rfl, ⟨t1, rfl⟩, ⟨t2, rfl⟩, ⟨t3, rfl⟩⟩ := vals3y r
  refine min_three_ints (I.ok.hd hc) fun h' tk kk => ⟨_, H, I.kept kk, ?_, q⟩
  unfold mn3
  split <;> split <;> exact ⟨_, rfl⟩
section
variable {G : Wd} {oa ob oc : Od} {k : Nat}
def i3 (f : Int → Int → Int → Int) : List D → Option D
  | [.int i, .int j, .int l] => some (.int (f i j l))
  | _ => none
theorem O_three {f : Int → Int → Int → Int} : OpS G [oa, ob, oc] k (i3 f) (fun xs H Q => ∃ i j l, xs = [.int i, .int j, .int l] ∧ Q (.int (f i j l)) H) := by
  intro κ P H σ ρ Fs vs ds Gs d Q R qd nd e q
  cases qd with | @cons _ _ a _ _ _ _ _ r1 qd => cases qd with | @cons _ _ b _ _ _ _ _ r2 qd => cases qd with | @cons _ _ c _ _ _ _ _ r3 qd =>
  cases qd
  cases a <;> try cases e
  cases b <;> try cases e
  cases c <;> try cases e
  exact ⟨_, _, _, by rw [int_own r1.1, int_own r2.1, int_own r3.1], fin_flat q (.int _) rfl⟩
def max3D := i3 mx3
def min3D := i3 mn3
theorem O_max3 : OpS G [oa, ob, oc] k max3D (fun xs H Q => ∃ i j l, xs = [.int i, .int j, .int l] ∧ Q (.int (mx3 i j l)) H) := O_three
theorem O_min3 : OpS G [oa, ob, oc] k min3D (fun xs H Q => ∃ i j l, xs = [.int i, .int j, .int l] ∧ Q (.int (mn3 i j l)) H) := O_three
end
end VS

set_option Elab.async false
set_option linter.all false
set_option maxRecDepth 100000
/-! An operand that is a slot's own value, of kind k. -/
namespace VS
open PySem PySem.Spec PyProof.Rows L2
def odK (k i : Nat) : Od := ⟨some i, [], k, rd i⟩
end VS

set_option Elab.async false
set_option linter.all false
set_option maxRecDepth 100000
/-! What the data semantics yields: one step a lemma, for simp. -/
namespace VS
open PySem PySem.Spec PyProof.Rows L2

/-! ### continuations, without binders -/
def contS : Option Out → SemS → Option Out
  | some (.nx ρ), t => t ρ
  | o, _ => o
theorem seqS_ap (s t : SemS) (ρ : List D) : seqS s t ρ = contS (s ρ) t := by
  unfold seqS
  cases e : s ρ with
  | none => rfl
  | some o => cases o <;> rfl
theorem contS_nx (ρ : List D) (t : SemS) : contS (some (.nx ρ)) t = t ρ := rfl
theorem contS_rt (d : D) (ρ : List D) (t : SemS) : contS (some (.rt d ρ)) t = some (.rt d ρ) := rfl
theorem contS_bk (ρ : List D) (t : SemS) : contS (some (.bk ρ)) t = some (.bk ρ) := rfl
theorem contS_ct (ρ : List D) (t : SemS) : contS (some (.ct ρ)) t = some (.ct ρ) := rfl
theorem nilS_ap (ρ : List D) : nilS ρ = some (.nx ρ) := rfl
theorem killS_ap (i : Nat) (s : SemS) (ρ : List D) : killS i s ρ = s (ρ.set i .und) := rfl
def setC (i : Nat) : Option (D × List D) → Option Out
  | some (d, ρ) => some (.nx (ρ.set i d))
  | none => none
theorem setS_ap (i : Nat) (f : Sem0) (ρ : List D) : setS i f ρ = setC i (f ρ) := by
  unfold setS; cases f ρ <;> rfl
theorem setC_so (i : Nat) (d : D) (ρ : List D) : setC i (some (d, ρ)) = some (.nx (ρ.set i d)) := rfl
def dropC : Option (D × List D) → Option Out
  | some (_, ρ) => some (.nx ρ)
  | none => none
theorem dropS_ap (f : Sem0) (ρ : List D) : dropS f ρ = dropC (f ρ) := by
  unfold dropS; cases f ρ <;> rfl
theorem dropC_so (d : D) (ρ : List D) : dropC (some (d, ρ)) = some (.nx ρ) := rfl
def retC : Option (D × List D) → Option Out
  | some (d, ρ) => some (.rt d ρ)
  | none => none
theorem retS_ap (f : Sem0) (ρ : List D) : retS f ρ = retC (f ρ) := by
  unfold retS; cases f ρ <;> rfl
theorem retC_so (d : D) (ρ : List D) : retC (some (d, ρ)) = some (.rt d ρ) := rfl
theorem retN_ap (ρ : List D) : retN ρ = some (.rt .non ρ) := rfl
theorem bkS_ap (ρ : List D) : bkS ρ = some (.bk ρ) := rfl
theorem ctS_ap (ρ : List D) : ctS ρ = some (.ct ρ) := rfl
def ifC : Option (Bool × List D) → SemS → SemS → Option Out
  | some (true, ρ), s, _ => s ρ
  | some (false, ρ), _, t => t ρ
  | none, _, _ => none
theorem ifS_ap (c : Tst) (s t : SemS) (ρ : List D) : ifS c s t ρ = ifC (c ρ) s t := by
  unfold ifS
  cases c ρ with
  | none => rfl
  | some p => obtain ⟨b, r⟩ := p; cases b <;> rfl
theorem ifC_t (ρ : List D) (s t : SemS) : ifC (some (true, ρ)) s t = s ρ := rfl
theorem ifC_f (ρ : List D) (s t : SemS) : ifC (some (false, ρ)) s t = t ρ := rfl
theorem ifC_b (b : Bool) (ρ : List D) (s t : SemS) : ifC (some (b, ρ)) s t = if b = true then s ρ else t ρ := by cases b <;> rfl
def forC : Option (List D × List D) → Tgt → SemS → Option Out
  | some (ds, ρ), m, s => loopS m s ds ρ
  | none, _, _ => none
theorem forS_ap (f : Cls) (m : Tgt) (s : SemS) (ρ : List D) : forS f m s ρ = forC (f ρ) m s := by
  unfold forS; cases f ρ <;> rfl
theorem forC_so (ds ρ : List D) (m : Tgt) (s : SemS) : forC (some (ds, ρ)) m s = loopS m s ds ρ := rfl
def asgC : Option (D × List D) → Tgt → Option Out
  | some (d, ρ), m => (m d ρ).map .nx
  | none, _ => none
theorem asgS_ap (f : Sem0) (m : Tgt) (ρ : List D) : asgS f m ρ = asgC (f ρ) m := by
  unfold asgS
  cases f ρ with
  | none => rfl
  | some p => show (m p.1 p.2).bind _ = (m p.1 p.2).map _; cases m p.1 p.2 <;> rfl
theorem asgC_so (d : D) (ρ : List D) (m : Tgt) : asgC (some (d, ρ)) m = (m d ρ).map .nx := rfl
/-! ### expressions -/
def seqC : Option (D × List D) → List Od → Option (List D × List D)
  | some (d, ρ), os => (seqF os ρ).map fun q => (d :: q.1, q.2)
  | none, _ => none
def seqC2 (d : D) : Option (List D × List D) → Option (List D × List D)
  | some (ds, ρ) => some (d :: ds, ρ)
  | none => none
theorem seqF_nil (ρ : List D) : seqF [] ρ = some ([], ρ) := rfl
theorem seqF_cons (o : Od) (os : List Od) (ρ : List D) : seqF (o :: os) ρ = seqC (o.f ρ) os := by
  show (o.f ρ).bind _ = _
  cases o.f ρ with
  | none => rfl
  | some p => show (seqF os p.2).bind _ = (seqF os p.2).map _; cases seqF os p.2 <;> rfl
theorem seqC_so (d : D) (ρ : List D) (os : List Od) : seqC (some (d, ρ)) os = seqC2 d (seqF os ρ) := by
  show (seqF os ρ).map _ = _
  cases seqF os ρ <;> rfl
theorem seqC2_so (d : D) (ds ρ : List D) : seqC2 d (some (ds, ρ)) = some (d :: ds, ρ) := rfl
theorem odK_f (k i : Nat) : (odK k i).f = rd i := rfl
theorem odK_al (k i : Nat) : (odK k i).al = some i := rfl
theorem odE_f (T : List Nat) (k : Nat) (f : Sem0) : (odE T k f).f = f := rfl
theorem odE_al (T : List Nat) (k : Nat) (f : Sem0) : (odE T k f).al = none := rfl
def opC (g : List D → Option D) : Option (List D × List D) → Option (D × List D)
  | some (ds, ρ) => (g ds).map fun d => (d, ρ)
  | none => none
def opC2 (ρ : List D) : Option D → Option (D × List D)
  | some d => some (d, ρ)
  | none => none
theorem opF_ap (g : List D → Option D) (os : List Od) (ρ : List D) : opF g os ρ = opC g (seqF os ρ) := by
  unfold opF
  cases seqF os ρ with
  | none => rfl
  | some p => show (g p.1).bind _ = (g p.1).map _; cases g p.1 <;> rfl
theorem opC_so (g : List D → Option D) (ds ρ : List D) : opC g (some (ds, ρ)) = opC2 ρ (g ds) := by
  show (g ds).map _ = _
  cases g ds <;> rfl
theorem opC2_so (ρ : List D) (d : D) : opC2 ρ (some d) = some (d, ρ) := rfl
theorem cF_ap (d : D) (ρ : List D) : cF d ρ = some (d, ρ) := rfl
def rdC : Option D → List D → Option (D × List D)
  | some .und, _ => none
  | some d, ρ => some (d, ρ)
  | none, _ => none
theorem rd_ap (i : Nat) (ρ : List D) : rd i ρ = rdC ρ[i]? ρ := by
  unfold rd
  cases ρ[i]? with
  | none => rfl
  | some d => cases d <;> rfl
theorem rdC_non (ρ : List D) : rdC (some .non) ρ = some (.non, ρ) := rfl
theorem rdC_bl (b : Bool) (ρ : List D) : rdC (some (.bl b)) ρ = some (.bl b, ρ) := rfl
theorem rdC_int (i : Int) (ρ : List D) : rdC (some (.int i)) ρ = some (.int i, ρ) := rfl
theorem rdC_str (x : Str) (ρ : List D) : rdC (some (.str x)) ρ = some (.str x, ρ) := rfl
theorem rdC_tup (xs : List D) (ρ : List D) : rdC (some (.tup xs)) ρ = some (.tup xs, ρ) := rfl
theorem rdC_lst (xs : List D) (ρ : List D) : rdC (some (.lst xs)) ρ = some (.lst xs, ρ) := rfl
theorem rdC_dct (t : Nat) (ks vs : List D) (ρ : List D) : rdC (some (.dct t ks vs)) ρ = some (.dct t ks vs, ρ) := rfl
theorem rdC_ne {d : D} (h : d ≠ .und) (ρ : List D) : rdC (some d) ρ = some (d, ρ) := by
  cases d <;> first | rfl | exact absurd rfl h
def callC2 (os : List Od) (ρ : List D) : Option (D × List D) → Option (D × List D)
  | some (d, es) => some (d, wb os es ρ)
  | none => none
def callC (os : List Od) (fn : Sem0) : Option (List D × List D) → Option (D × List D)
  | some (ds, ρ) => callC2 os ρ (fn ds)
  | none => none
theorem callF_ap (os : List Od) (fn : Sem0) (ρ : List D) : callF os fn ρ = callC os fn (seqF os ρ) := by
  unfold callF
  cases seqF os ρ with
  | none => rfl
  | some p => show (fn p.1).bind _ = callC2 os p.2 (fn p.1); cases fn p.1 <;> rfl
theorem callC_so (os : List Od) (fn : Sem0) (ds ρ : List D) : callC os fn (some (ds, ρ)) = callC2 os ρ (fn ds) := rfl
theorem callC2_so (os : List Od) (ρ es : List D) (d : D) : callC2 os ρ (some (d, es)) = some (d, wb os es ρ) := rfl
theorem wb_nil (ds ρ : List D) : wb [] ds ρ = ρ := by unfold wb; rfl
theorem wb_e (T : List Nat) (k : Nat) (f : Sem0) (os : List Od) (d : D) (ds ρ : List D) : wb (odE T k f :: os) (d :: ds) ρ = wb os ds ρ := rfl
theorem wb_k (k i : Nat) (os : List Od) (d : D) (ds ρ : List D) : wb (odK k i :: os) (d :: ds) ρ = wb os ds (ρ.set i d) := rfl
def tstC : Option (D × List D) → Option (Bool × List D)
  | some (.bl b, ρ) => some (b, ρ)
  | _ => none
theorem tstF_ap (f : Sem0) (ρ : List D) : tstF f ρ = tstC (f ρ) := by
  unfold tstF
  cases f ρ with
  | none => rfl
  | some p => obtain ⟨d, r⟩ := p; cases d <;> rfl
theorem tstC_so (b : Bool) (ρ : List D) : tstC (some (.bl b, ρ)) = some (b, ρ) := rfl
def notC : Option (Bool × List D) → Option (Bool × List D)
  | some (b, ρ) => some (!b, ρ)
  | none => none
theorem notF_ap (t : Tst) (ρ : List D) : notF t ρ = notC (t ρ) := by unfold notF; cases t ρ <;> rfl
theorem notC_so (b : Bool) (ρ : List D) : notC (some (b, ρ)) = some (!b, ρ) := rfl
def andC : Option (Bool × List D) → Tst → Option (Bool × List D)
  | some (true, ρ), u => u ρ
  | some (false, ρ), _ => some (false, ρ)
  | none, _ => none
theorem andF_ap (t u : Tst) (ρ : List D) : andF t u ρ = andC (t ρ) u := by
  unfold andF
  cases t ρ with
  | none => rfl
  | some p => obtain ⟨b, r⟩ := p; cases b <;> rfl
theorem andC_t (ρ : List D) (u : Tst) : andC (some (true, ρ)) u = u ρ := rfl
theorem andC_f (ρ : List D) (u : Tst) : andC (some (false, ρ)) u = some (false, ρ) := rfl
/-- the second's value is known -/
theorem andC_b {b c : Bool} {ρ : List D} {u : Tst} (h : b = true → u ρ = some (c, ρ)) : andC (some (b, ρ)) u = some (b && c, ρ) := by
  cases b
  · rfl
  · rw [andC_t, h rfl]; rfl
def orC : Option (Bool × List D) → Tst → Option (Bool × List D)
  | some (true, ρ), _ => some (true, ρ)
  | some (false, ρ), u => u ρ
  | none, _ => none
theorem orF_ap (t u : Tst) (ρ : List D) : orF t u ρ = orC (t ρ) u := by
  unfold orF
  cases t ρ with
  | none => rfl
  | some p => obtain ⟨b, r⟩ := p; cases b <;> rfl
theorem orC_t (ρ : List D) (u : Tst) : orC (some (true, ρ)) u = some (true, ρ) := rfl
theorem orC_f (ρ : List D) (u : Tst) : orC (some (false, ρ)) u = u ρ := rfl
theorem orC_b {b c : Bool} {ρ : List D} {u : Tst} (h : b = false → u ρ = some (c, ρ)) : orC (some (b, ρ)) u = some (b || c, ρ) := by
  cases b
  · rw [orC_f, h rfl]; rfl
  · rfl
def ifFC : Option (Bool × List D) → Sem0 → Sem0 → Option (D × List D)
  | some (true, ρ), f, _ => f ρ
  | some (false, ρ), _, g => g ρ
  | none, _, _ => none
theorem ifF_ap (t : Tst) (f g : Sem0) (ρ : List D) : ifF t f g ρ = ifFC (t ρ) f g := by
  unfold ifF
  cases t ρ with
  | none => rfl
  | some p => obtain ⟨b, r⟩ := p; cases b <;> rfl
theorem ifFC_t (ρ : List D) (f g : Sem0) : ifFC (some (true, ρ)) f g = f ρ := rfl
theorem ifFC_f (ρ : List D) (f g : Sem0) : ifFC (some (false, ρ)) f g = g ρ := rfl
theorem ifFC_b (b : Bool) (ρ : List D) (f g : Sem0) : ifFC (some (b, ρ)) f g = if b = true then f ρ else g ρ := by cases b <;> rfl
def blC : Option (Bool × List D) → Option (D × List D)
  | some (b, ρ) => some (.bl b, ρ)
  | none => none
theorem blF_ap (t : Tst) (ρ : List D) : blF t ρ = blC (t ρ) := by unfold blF; cases t ρ <;> rfl
theorem blC_so (b : Bool) (ρ : List D) : blC (some (b, ρ)) = some (.bl b, ρ) := rfl
def andVC : Option (D × List D) → Sem0 → Option (D × List D)
  | some (.bl true, ρ), g => g ρ
  | some (.bl false, ρ), _ => some (.bl false, ρ)
  | _, _ => none
theorem andV_ap (f g : Sem0) (ρ : List D) : andV f g ρ = andVC (f ρ) g := by
  unfold andV
  cases f ρ with
  | none => rfl
  | some p => obtain ⟨d, r⟩ := p; cases d <;> first | rfl | (rename_i b; cases b <;> rfl)
theorem andVC_t (ρ : List D) (g : Sem0) : andVC (some (.bl true, ρ)) g = g ρ := rfl
theorem andVC_f (ρ : List D) (g : Sem0) : andVC (some (.bl false, ρ)) g = some (.bl false, ρ) := rfl
theorem andVC_b {b c : Bool} {ρ : List D} {g : Sem0} (h : b = true → g ρ = some (.bl c, ρ)) : andVC (some (.bl b, ρ)) g = some (.bl (b && c), ρ) := by
  cases b
  · rfl
  · rw [andVC_t, h rfl]; rfl
def orVC : Option (D × List D) → Sem0 → Option (D × List D)
  | some (.bl true, ρ), _ => some (.bl true, ρ)
  | some (.bl false, ρ), g => g ρ
  | _, _ => none
theorem orV_ap (f g : Sem0) (ρ : List D) : orV f g ρ = orVC (f ρ) g := by
  unfold orV
  cases f ρ with
  | none => rfl
  | some p => obtain ⟨d, r⟩ := p; cases d <;> first | rfl | (rename_i b; cases b <;> rfl)
theorem orVC_t (ρ : List D) (g : Sem0) : orVC (some (.bl true, ρ)) g = some (.bl true, ρ) := rfl
theorem orVC_f (ρ : List D) (g : Sem0) : orVC (some (.bl false, ρ)) g = g ρ := rfl
theorem orVC_b {b c : Bool} {ρ : List D} {g : Sem0} (h : b = false → g ρ = some (.bl c, ρ)) : orVC (some (.bl b, ρ)) g = some (.bl (b || c), ρ) := by
  cases b
  · rw [orVC_f, h rfl]; rfl
  · rfl
def notVC : Option (D × List D) → Option (D × List D)
  | some (.bl b, ρ) => some (.bl (!b), ρ)
  | _ => none
theorem notV_ap (f : Sem0) (ρ : List D) : notV f ρ = notVC (f ρ) := by
  unfold notV
  cases f ρ with
  | none => rfl
  | some p => obtain ⟨d, r⟩ := p; cases d <;> rfl
theorem notVC_so (b : Bool) (ρ : List D) : notVC (some (.bl b, ρ)) = some (.bl (!b), ρ) := rfl
def truC : Option (List D × List D) → Option (Bool × List D)
  | some ([d], ρ) => (truD d).map fun b => (b, ρ)
  | _ => none
theorem truO_ap (o : Od) (ρ : List D) : truO o ρ = truC (seqF [o] ρ) := by
  unfold truO
  cases seqF [o] ρ with
  | none => rfl
  | some p =>
    obtain ⟨ds, r⟩ := p
    match ds with
    | [] => rfl
    | [d] => show (truD d).bind _ = (truD d).map _; cases truD d <;> rfl
    | _ :: _ :: _ => rfl
theorem truC_bl (b : Bool) (ρ : List D) : truC (some ([.bl b], ρ)) = some (b, ρ) := rfl
theorem truC_int (i : Int) (ρ : List D) : truC (some ([.int i], ρ)) = some (i != 0, ρ) := rfl
theorem truC_lst (xs ρ : List D) : truC (some ([.lst xs], ρ)) = some (!xs.isEmpty, ρ) := rfl
theorem truC_tup (xs ρ : List D) : truC (some ([.tup xs], ρ)) = some (!xs.isEmpty, ρ) := rfl
theorem truC_non (ρ : List D) : truC (some ([.non], ρ)) = some (false, ρ) := rfl
/-! ### functions -/
def fnC (Φ : List Nat) (ds : List D) : Option Out → Option (D × List D)
  | some (.rt d ρ) => some (d, rest Φ 0 ds ρ)
  | some (.nx ρ) => some (.non, rest Φ 0 ds ρ)
  | _ => none
theorem fnF_ap (Φ : List Nat) (n : Nat) (s : SemS) (ds : List D) : fnF Φ n s ds = fnC Φ ds (s (ds ++ List.replicate (n - ds.length) .und)) := by
  unfold fnF
  cases s (ds ++ List.replicate (n - ds.length) .und) with
  | none => rfl
  | some o => cases o <;> rfl
theorem fnC_rt (Φ : List Nat) (ds ρ : List D) (d : D) : fnC Φ ds (some (.rt d ρ)) = some (d, rest Φ 0 ds ρ) := rfl
theorem fnC_nx (Φ : List Nat) (ds ρ : List D) : fnC Φ ds (some (.nx ρ)) = some (.non, rest Φ 0 ds ρ) := rfl
/-- by reference nothing -/
theorem rest_nil : ∀ (j : Nat) (ds es : List D), rest [] j ds es = ds
  | _, [], _ => rfl
  | j, d :: ds, es => by show (if false = true then _ else d) :: rest [] (j + 1) ds es.tail = _; rw [rest_nil]; rfl
theorem fn_of {n : Nat} {s : SemS} {ds ρ0 r : List D} {d : D} (h0 : ds ++ List.replicate (n - ds.length) .und = ρ0) (h : s ρ0 = some (.rt d r)) : fnF [] n s ds = some (d, ds) := by
  rw [fnF_ap, h0, h, fnC_rt, rest_nil]
theorem fn_ofr {Φ : List Nat} {n : Nat} {s : SemS} {ds ρ0 r es : List D} {d : D} (h0 : ds ++ List.replicate (n - ds.length) .und = ρ0) (h : s ρ0 = some (.rt d r)) (h1 : rest Φ 0 ds r = es) : fnF Φ n s ds = some (d, es) := by
  rw [fnF_ap, h0, h, fnC_rt, h1]
/-! ### stores -/
def appC (i : Nat) (xs : List D) : Option (D × List D) → Option (D × List D)
  | some (d, ρ) => if xs.length < sizeLine then some (.non, ρ.set i (.lst (xs ++ [d]))) else none
  | none => none
def appC0 (i : Nat) (f : Sem0) (ρ : List D) : Option D → Option (D × List D)
  | some (.lst xs) => appC i xs (f ρ)
  | _ => none
theorem appF_ap (i : Nat) (f : Sem0) (ρ : List D) : appF i f ρ = appC0 i f ρ ρ[i]? := by
  unfold appF
  cases ρ[i]? with
  | none => rfl
  | some d => cases d <;> first | rfl | (show (f ρ).bind _ = appC i _ (f ρ); cases f ρ <;> rfl)
theorem appC0_so (i : Nat) (f : Sem0) (ρ xs : List D) : appC0 i f ρ (some (.lst xs)) = appC i xs (f ρ) := rfl
theorem appC_so (i : Nat) (xs ρ : List D) (d : D) (h : xs.length < sizeLine) : appC i xs (some (d, ρ)) = some (.non, ρ.set i (.lst (xs ++ [d]))) := by
  show (if _ then _ else _) = _; rw [if_pos h]
def stC2 (i : Nat) (v : D) (xs : List D) : Option (D × List D) → Option Out
  | some (.int j, ρ) => (ixN xs.length j).map fun n => .nx (ρ.set i (.lst (xs.set n v)))
  | _ => none
def stC1 (i : Nat) (v : D) (g : Sem0) (ρ : List D) : Option D → Option Out
  | some (.lst xs) => stC2 i v xs (g ρ)
  | _ => none
def stC (i : Nat) (g : Sem0) : Option (D × List D) → Option Out
  | some (v, ρ) => stC1 i v g ρ ρ[i]?
  | none => none
theorem stS_ap (i : Nat) (f g : Sem0) (ρ : List D) : stS i f g ρ = stC i g (f ρ) := by
  unfold stS
  cases f ρ with
  | none => rfl
  | some p =>
    obtain ⟨v, r⟩ := p
    show (match r[i]? with | some (.lst xs) => _ | _ => none) = stC1 i v g r r[i]?
    cases r[i]? with
    | none => rfl
    | some d =>
      cases d with
      | lst xs =>
        show (g r).bind _ = stC2 i v xs (g r)
        cases g r with
        | none => rfl
        | some q =>
          obtain ⟨e, r2⟩ := q
          cases e with
          | int j => show (ixN xs.length j).bind _ = (ixN xs.length j).map _; cases ixN xs.length j <;> rfl
          | _ => rfl
      | _ => rfl
theorem stC_so (i : Nat) (g : Sem0) (v : D) (ρ : List D) : stC i g (some (v, ρ)) = stC1 i v g ρ ρ[i]? := rfl
theorem stC1_so (i : Nat) (v : D) (g : Sem0) (ρ xs : List D) : stC1 i v g ρ (some (.lst xs)) = stC2 i v xs (g ρ) := rfl
theorem stC2_so (i : Nat) (v : D) (xs ρ : List D) (j : Int) (h0 : 0 ≤ j) (h1 : j < xs.length) : stC2 i v xs (some (.int j, ρ)) = some (.nx (ρ.set i (.lst (xs.set j.toNat v)))) := by
  show (ixN xs.length j).map _ = _
  unfold ixN
  rw [if_pos h0, if_pos h1]; rfl
/-! ### loops -/
def turn (m : Tgt) (s : SemS) (x : D) (ρ : List D) : Option Out := (m x ρ).bind s
def loopC (m : Tgt) (s : SemS) (xs : List D) : Option Out → Option Out
  | some (.nx ρ) => loopS m s xs ρ
  | some (.ct ρ) => loopS m s xs ρ
  | some (.bk ρ) => some (.nx ρ)
  | some (.rt d ρ) => some (.rt d ρ)
  | none => none
theorem loopS_nil (m : Tgt) (s : SemS) (ρ : List D) : loopS m s [] ρ = some (.nx ρ) := rfl
theorem loopS_cons (m : Tgt) (s : SemS) (x : D) (xs ρ : List D) : loopS m s (x :: xs) ρ = loopC m s xs (turn m s x ρ) := by
  show (m x ρ).bind _ = _
  unfold turn
  cases m x ρ with
  | none => rfl
  | some r => show (s r).bind _ = loopC m s xs (s r); cases s r with
    | none => rfl
    | some o => cases o <;> rfl
theorem loopC_nx (m : Tgt) (s : SemS) (xs ρ : List D) : loopC m s xs (some (.nx ρ)) = loopS m s xs ρ := rfl
theorem loopC_ct (m : Tgt) (s : SemS) (xs ρ : List D) : loopC m s xs (some (.ct ρ)) = loopS m s xs ρ := rfl
theorem loopC_bk (m : Tgt) (s : SemS) (xs ρ : List D) : loopC m s xs (some (.bk ρ)) = some (.nx ρ) := rfl
theorem loopC_rt (m : Tgt) (s : SemS) (xs ρ : List D) (d : D) : loopC m s xs (some (.rt d ρ)) = some (.rt d ρ) := rfl
/-- a turn that goes on -/
def isGo : Option Out → List D → Prop
  | some (.nx ρ), r => ρ = r
  | some (.ct ρ), r => ρ = r
  | _, _ => False
/-- a loop as a fold, with an invariant of the part taken -/
theorem loop_inv {α σ : Type} {e : α → D} {m : Tgt} {s : SemS} (st : σ → List D) (f : σ → α → σ) (I : List α → σ → Prop) (all : List α)
    (h : ∀ pre x post a, all = pre ++ x :: post → I pre a → turn m s (e x) (st a) = some (.nx (st (f a x))) ∧ I (pre ++ [x]) (f a x)) :
    ∀ (pre post : List α) (a : σ), all = pre ++ post → I pre a → loopS m s (post.map e) (st a) = some (.nx (st (post.foldl f a))) ∧ I all (post.foldl f a)
  | pre, [], a, hp, hi => ⟨rfl, by rw [hp, List.append_nil]; exact hi⟩
  | pre, x :: post, a, hp, hi => by
    obtain ⟨h1, h2⟩ := h pre x post a hp hi
    rw [List.map_cons, loopS_cons, h1, loopC_nx, List.foldl_cons]
    exact loop_inv st f I all h (pre ++ [x]) post (f a x) (by rw [hp]; simp) h2
theorem loop_fold {α σ : Type} {e : α → D} {m : Tgt} {s : SemS} (st : σ → List D) (f : σ → α → σ) (I : σ → Prop) {xs : List α}
    (h : ∀ x a, x ∈ xs → I a → turn m s (e x) (st a) = some (.nx (st (f a x))) ∧ I (f a x)) {a : σ} (hi : I a) :
    loopS m s (xs.map e) (st a) = some (.nx (st (xs.foldl f a))) ∧ I (xs.foldl f a) :=
  loop_inv st f (fun _ => I) xs (fun pre x post a hp hi => h x a (by rw [hp]; simp) hi) [] xs a rfl hi
theorem loop_fold0 {α σ : Type} {e : α → D} {m : Tgt} {s : SemS} (st : σ → List D) (f : σ → α → σ) {xs : List α}
    (h : ∀ x a, x ∈ xs → turn m s (e x) (st a) = some (.nx (st (f a x)))) (a : σ) :
    loopS m s (xs.map e) (st a) = some (.nx (st (xs.foldl f a))) :=
  (loop_fold (I := fun _ => True) st f (fun x a hx _ => ⟨h x a hx, trivial⟩) trivial).1
/-- a loop whose state is only known by what holds of it -/
theorem loop_rel {α σ : Type} {e : α → D} {m : Tgt} {s : SemS} (st : σ → List D) (I : List α → σ → Prop) (all : List α)
    (h : ∀ pre x post a, all = pre ++ x :: post → I pre a → ∃ b, turn m s (e x) (st a) = some (.nx (st b)) ∧ I (pre ++ [x]) b) :
    ∀ (pre post : List α) (a : σ), all = pre ++ post → I pre a → ∃ b, loopS m s (post.map e) (st a) = some (.nx (st b)) ∧ I all b
  | pre, [], a, hp, hi => ⟨a, rfl, by rw [hp, List.append_nil]; exact hi⟩
  | pre, x :: post, a, hp, hi => by
    obtain ⟨b, h1, h2⟩ := h pre x post a hp hi
    rw [List.map_cons, loopS_cons, h1, loopC_nx]
    exact loop_rel st I all h (pre ++ [x]) post b (by rw [hp]; simp) h2
/-- a while -/
def whileC (c : Tst) (s : SemS) (n : Nat) : Option Out → Option Out
  | some (.nx ρ) => whileS c s n ρ
  | some (.ct ρ) => whileS c s n ρ
  | some (.bk ρ) => some (.nx ρ)
  | some (.rt d ρ) => some (.rt d ρ)
  | none => none
theorem whileS_t {c : Tst} {s : SemS} {n : Nat} {ρ r : List D} (h : c ρ = some (true, r)) : whileS c s (n + 1) ρ = whileC c s n (s r) := by
  show (c ρ).bind _ = _
  rw [h]
  show (s r).bind _ = _
  cases s r with
  | none => rfl
  | some o => cases o <;> rfl
theorem whileS_f {c : Tst} {s : SemS} {n : Nat} {ρ r : List D} (h : c ρ = some (false, r)) : whileS c s (n + 1) ρ = some (.nx r) := by
  show (c ρ).bind _ = _
  rw [h]; rfl
theorem while_rel {σ : Type} {c : Tst} {s : SemS} (st : σ → List D) (t : σ → Bool) (I : σ → Prop) (μ : σ → Nat)
    (ht : ∀ a, I a → c (st a) = some (t a, st a)) (hs : ∀ a, I a → t a = true → ∃ b, s (st a) = some (.nx (st b)) ∧ I b ∧ μ b < μ a) :
    ∀ (n : Nat) (a : σ), I a → μ a < n → ∃ b, whileS c s n (st a) = some (.nx (st b)) ∧ I b ∧ t b = false
  | 0, a, _, h => absurd h (Nat.not_lt_zero _)
  | n + 1, a, hi, hn => by
    cases ha : t a with
    | false => exact ⟨a, whileS_f (by rw [ht a hi, ha]), hi, ha⟩
    | true =>
      obtain ⟨b, h1, h2, h3⟩ := hs a hi ha
      rw [whileS_t (by rw [ht a hi, ha]), h1]
      exact while_rel st t I μ ht hs n b h2 (by omega)
/-! ### comprehensions -/
theorem clL_ev {α : Type} {e : α → D} {vs : List Nat} {m : Tgt} {t : Tst} {b : Cls} {ρ0 : List D} (ρ1 : α → List D) (p : α → Bool) (g : α → List D) : ∀ {xs : List α},
    (∀ x ∈ xs, m (e x) ρ0 = some (ρ1 x)) → (∀ x ∈ xs, t (ρ1 x) = some (p x, ρ1 x)) → (∀ x ∈ xs, p x = true → b (ρ1 x) = some (g x, ρ1 x)) → (∀ x ∈ xs, wipeD vs (ρ1 x) = ρ0) →
    clL vs m t b (xs.map e) ρ0 = some ((xs.filter p).flatMap g, ρ0)
  | [], _, _, _, _ => rfl
  | x :: xs, h1, h2, h3, h4 => by
    have ih := clL_ev (e := e) (m := m) (t := t) (b := b) ρ1 p g (fun y hy => h1 y (List.mem_cons_of_mem _ hy)) (fun y hy => h2 y (List.mem_cons_of_mem _ hy)) (fun y hy => h3 y (List.mem_cons_of_mem _ hy)) (fun y hy => h4 y (List.mem_cons_of_mem _ hy))
    show (m (e x) ρ0).bind _ = _
    rw [h1 x List.mem_cons_self]
    show (t (ρ1 x)).bind _ = _
    rw [h2 x List.mem_cons_self]
    show (if p x = true then _ else _) = _
    cases hp : p x with
    | false =>
      rw [if_neg (by simp), h4 x List.mem_cons_self, ih, List.filter_cons_of_neg (by rw [hp]; simp)]
    | true =>
      rw [if_pos rfl, h3 x List.mem_cons_self hp]
      show (clL vs m t b (xs.map e) (wipeD vs (ρ1 x))).bind _ = _
      rw [h4 x List.mem_cons_self, ih, List.filter_cons_of_pos hp]
      rfl
theorem clF_ev {α : Type} {xs : List α} {e : α → D} {src : Cls} {vs : List Nat} {m : Tgt} {t : Tst} {b : Cls} {ρ : List D} (ρ1 : α → List D) (p : α → Bool) (g : α → List D)
    (hs : src ρ = some (xs.map e, ρ)) (hm : ∀ x ∈ xs, m (e x) (wipeD vs ρ) = some (ρ1 x)) (ht : ∀ x ∈ xs, t (ρ1 x) = some (p x, ρ1 x)) (hb : ∀ x ∈ xs, p x = true → b (ρ1 x) = some (g x, ρ1 x))
    (hw : ∀ x ∈ xs, wipeD vs (ρ1 x) = wipeD vs ρ) (hu : unw vs ρ (wipeD vs ρ) = ρ) :
    clF src vs m t b ρ = some ((xs.filter p).flatMap g, ρ) := by
  unfold clF
  rw [hs]
  show (clL vs m t b (xs.map e) (wipeD vs ρ)).bind _ = _
  rw [clL_ev ρ1 p g hm ht hb hw]
  show some (_, unw vs ρ (wipeD vs ρ)) = _
  rw [hu]
theorem oneF_ev {el : Sem0} {ρ r : List D} {d : D} (h : el ρ = some (d, r)) : oneF el ρ = some ([d], r) := by
  unfold oneF; rw [h]; rfl
theorem lcF_ev {c : Cls} {ρ r ds : List D} (h : c ρ = some (ds, r)) (hl : ds.length ≤ sizeLine) : lcF c ρ = some (.lst ds, r) := by
  unfold lcF; rw [h]; show (if _ then _ else _) = _; rw [if_pos hl]
theorem flatMap_one {α β : Type} (g : α → β) : ∀ xs : List α, xs.flatMap (fun x => [g x]) = xs.map g
  | [] => rfl
  | x :: xs => by rw [List.flatMap_cons, flatMap_one g xs]; rfl
/-- [el for x in xs if t] -/
theorem lc_if {α : Type} {xs : List α} {e : α → D} {src : Cls} {vs : List Nat} {m : Tgt} {t : Tst} {el : Sem0} {ρ : List D} (ρ1 : α → List D) (p : α → Bool) (g : α → D)
    (hs : src ρ = some (xs.map e, ρ)) (hm : ∀ x ∈ xs, m (e x) (wipeD vs ρ) = some (ρ1 x)) (ht : ∀ x ∈ xs, t (ρ1 x) = some (p x, ρ1 x)) (hb : ∀ x ∈ xs, p x = true → el (ρ1 x) = some (g x, ρ1 x))
    (hw : ∀ x ∈ xs, wipeD vs (ρ1 x) = wipeD vs ρ) (hu : unw vs ρ (wipeD vs ρ) = ρ) (hl : xs.length ≤ sizeLine) :
    lcF (clF src vs m t (oneF el)) ρ = some (.lst ((xs.filter p).map g), ρ) := by
  refine lcF_ev ?_ ?_
  · rw [clF_ev ρ1 p (fun x => [g x]) hs hm ht (fun x hx hp => oneF_ev (hb x hx hp)) hw hu, flatMap_one]
  · rw [List.length_map]; exact Nat.le_trans (List.length_filter_le _ _) hl
theorem yesF_ap (ρ : List D) : yesF ρ = some (true, ρ) := rfl
theorem filter_yes {α : Type} : ∀ xs : List α, xs.filter (fun _ => true) = xs
  | [] => rfl
  | x :: xs => by rw [List.filter_cons_of_pos rfl, filter_yes xs]
/-- [el for x in xs] -/
theorem lc_map {α : Type} {xs : List α} {e : α → D} {src : Cls} {vs : List Nat} {m : Tgt} {el : Sem0} {ρ : List D} (ρ1 : α → List D) (g : α → D)
    (hs : src ρ = some (xs.map e, ρ)) (hm : ∀ x ∈ xs, m (e x) (wipeD vs ρ) = some (ρ1 x)) (hb : ∀ x ∈ xs, el (ρ1 x) = some (g x, ρ1 x))
    (hw : ∀ x ∈ xs, wipeD vs (ρ1 x) = wipeD vs ρ) (hu : unw vs ρ (wipeD vs ρ) = ρ) (hl : xs.length ≤ sizeLine) :
    lcF (clF src vs m yesF (oneF el)) ρ = some (.lst (xs.map g), ρ) := by
  rw [lc_if ρ1 (fun _ => true) g hs hm (fun _ _ => rfl) (fun x hx _ => hb x hx) hw hu hl, filter_yes]
end VS

set_option maxRecDepth 100000
set_option maxHeartbeats 0
namespace VS
namespace K89
open PySem PySem.Spec PyProof.Rows L2
abbrev bnames : List Str := ["all", "bool", "enumerate", "int", "isinstance", "len", "list", "min", "range", "reversed", "sorted", "str", "tuple"]
def topS (i : Nat) : Stmt := PySem.Challenge.pw_sumwright_k89_whole_plane_partitions_tha.main.body.getD i (.Pass ⟨0, 0, 0, 0⟩)
abbrev s_lines_below : Stmt := topS 1
abbrev N_lines_below : List Str := ["upper", "c", "told", "most", "row", "entry"]
theorem sc_lines_below : FnScope N_lines_below ["upper", "c"] (defScope s_lines_below) := ⟨rfl, rfl, rfl, by decide +kernel, rfl, by decide +kernel, by decide +kernel⟩
def S_lines_below : SemS := seqS (setS 2 (opF lstD [odE [] 0 (opF tupD [])])) (seqS (forS (seqSrc (rd 0)) (tgN 3) (seqS (setS 2 (lcF (clF (seqSrc (rd 2)) [4, 5] (tgN 4) (yesF) (clF (rng1 [odE [] 1 (opF addD [odE [] 0 (opF minD [odE [] 1 (opF addD [odE [] 1 (opF lstD [odE [] 0 (rd 3), odE [] 0 (rd 1)]), odE [] 1 (opF listD [odE [] 1 (opF slLD [odS [0, 0, 0, 0, 0, 0] 4, odE [] 0 (opF negD [odE [] 0 (cF (.int 1))])])])])]), odE [] 0 (cF (.int 1))])]) [5] (tgN 5) (yesF) (oneF (opF addD [odS [0, 0, 0, 0, 0, 0] 4, odE [] 0 (opF tupD [odE [] 0 (rd 5)])])))))) (nilS))) (seqS (retS (opF (sortedD false) [odS [0, 0, 0, 0, 0, 0] 2])) (nilS)))
def F_lines_below : Sem0 := fnF [] N_lines_below.length S_lines_below
theorem ok_lines_below {P : Program} {w : World} {K : PySem.W.Frag} {mg : Str → Option Value} {base : Heap} {fa : Addr} {fd : FuncData} (F : Fun K "lines_below" "lines_below" s_lines_below fa fd) (hm : mg "lines_below" = some (.ref fa)) (hb : Binds K fd ["upper", "c"] []) (bn : ∀ x, x ∈ bnames → mg x = none)  : CalD P w K mg base 1 "lines_below" (spD ⟨K, P, w⟩ [] [0, 0] 0 F_lines_below) := by
  have h : FnOk P w K mg base CX0 1 fa fd ["upper", "c"] (spD ⟨K, P, w⟩ [] [0, 0] 0 (fnF [] N_lines_below.length S_lines_below)) := by
    refine fn_ok (lv := 0) (N := N_lines_below) (κ' := [0, 0, 0, 0, 0, 0]) (κp := [0, 0]) (κl := [0, 0, 0, 0]) (Φ := []) (s := S_lines_below) F sc_lines_below rfl rfl (zero_out (by decide)) (fun cdv A outer s0 H E hr => ?_)
    have hu := hr.units
    have nd := sc_lines_below.nd
    exact vss_cons (κ1 := [0, 0, 0, 0, 0, 0]) (s := setS 2 (opF lstD [odE [] 0 (opF tupD [])]))   (vs_set (i := 2) (T := []) (j := 0) (f := opF lstD [odE [] 0 (opF tupD [])]) (by decide) (by decide) nd rfl (by first | exact Or.inl rfl | exact Or.inr rfl) (ve_share (k := 1) (ve_lst (O_lst (by decide)) (va_cons (vo_e (T := []) (k := 0) (f := opF tupD []) (ve_tup (O_tup (k := 0) (by decide)) (va_nil))) (va_nil) (by decide)))))   (vss_cons (κ1 := [0, 0, 0, 0, 0, 0]) (s := forS (seqSrc (rd 0)) (tgN 3) (seqS (setS 2 (lcF (clF (seqSrc (rd 2)) [4, 5] (tgN 4) (yesF) (clF (rng1 [odE [] 1 (opF addD [odE [] 0 (opF minD [odE [] 1 (opF addD [odE [] 1 (opF lstD [odE [] 0 (rd 3), odE [] 0 (rd 1)]), odE [] 1 (opF listD [odE [] 1 (opF slLD [odS [0, 0, 0, 0, 0, 0] 4, odE [] 0 (opF negD [odE [] 0 (cF (.int 1))])])])])]), odE [] 0 (cF (.int 1))])]) [5] (tgN 5) (yesF) (oneF (opF addD [odS [0, 0, 0, 0, 0, 0] 4, odE [] 0 (opF tupD [odE [] 0 (rd 5)])])))))) (nilS)))   (vs_for (T := []) (f := seqSrc (rd 0)) (m := tgN 3) PassesOwn.never rfl (vi_seq (xv 0)) (vg_name (i := 3) (κ' := [0, 0, 0, 0, 0, 0]) (by decide) (by decide) rfl nd rfl (by first | exact Or.inl rfl | exact Or.inr rfl))  (vss_cons (κ1 := [0, 0, 1, 0, 0, 0]) (s := setS 2 (lcF (clF (seqSrc (rd 2)) [4, 5] (tgN 4) (yesF) (clF (rng1 [odE [] 1 (opF addD [odE [] 0 (opF minD [odE [] 1 (opF addD [odE [] 1 (opF lstD [odE [] 0 (rd 3), odE [] 0 (rd 1)]), odE [] 1 (opF listD [odE [] 1 (opF slLD [odS [0, 0, 0, 0, 0, 0] 4, odE [] 0 (opF negD [odE [] 0 (cF (.int 1))])])])])]), odE [] 0 (cF (.int 1))])]) [5] (tgN 5) (yesF) (oneF (opF addD [odS [0, 0, 0, 0, 0, 0] 4, odE [] 0 (opF tupD [odE [] 0 (rd 5)])]))))))   (vs_setLc2 (i := 2) (κ := [0, 0, 0, 0, 0, 0]) (T0 := []) (T1 := []) (T2 := []) (T3 := []) (T4 := []) (k := 0) (Φc := [0, 1, 2, 3]) (Φd := [0, 1, 2, 3, 4]) [] [("row", 4), ("entry", 5)] [5] (by decide) (by decide) (by decide) (by decide) (by decide) (by decide) (by decide) (by decide) (by decide) (by decide) (by decide) (by decide) rfl nd rfl rfl (sw_true rfl rfl rfl (by decide +kernel)) (vi_seq (xv 2)) (blkOk_by (by kernel_rfl)) (fun s0 H0 C0 cl0 fp0 => vg_name (i := 4) (κ' := [0, 0, 0, 0, 0, 0]) (by decide) (by decide) rfl nd rfl (by first | exact Or.inl rfl | exact Or.inr rfl)) (fun s0 H0 C0 cl0 fp0 => vts_nil) (fun s0 H0 C0 cl0 fp0 => vi_rng1 (by rfl) (by exact bn "range" (by decide)) (va_cons (vo_e (T := []) (k := 1) (f := opF addD [odE [] 0 (opF minD [odE [] 1 (opF addD [odE [] 1 (opF lstD [odE [] 0 (rd 3), odE [] 0 (rd 1)]), odE [] 1 (opF listD [odE [] 1 (opF slLD [odS [0, 0, 0, 0, 0, 0] 4, odE [] 0 (opF negD [odE [] 0 (cF (.int 1))])])])])]), odE [] 0 (cF (.int 1))]) (ve_bin op_addA (O_add (by decide) (by decide)) (vo_e (T := []) (k := 0) (f := opF minD [odE [] 1 (opF addD [odE [] 1 (opF lstD [odE [] 0 (rd 3), odE [] 0 (rd 1)]), odE [] 1 (opF listD [odE [] 1 (opF slLD [odS [0, 0, 0, 0, 0, 0] 4, odE [] 0 (opF negD [odE [] 0 (cF (.int 1))])])])])]) (ve_callB (cr_min rfl) (O_min (k := 0) (by decide)) (by rfl) (by exact bn "min" (by decide)) vb_min (va_cons (vo_e (T := []) (k := 1) (f := opF addD [odE [] 1 (opF lstD [odE [] 0 (rd 3), odE [] 0 (rd 1)]), odE [] 1 (opF listD [odE [] 1 (opF slLD [odS [0, 0, 0, 0, 0, 0] 4, odE [] 0 (opF negD [odE [] 0 (cF (.int 1))])])])]) (ve_bin op_addA (O_add (by decide) (by decide)) (vo_e (T := []) (k := 1) (f := opF lstD [odE [] 0 (rd 3), odE [] 0 (rd 1)]) (ve_lst (O_lst (by decide)) (va_cons (vo_e (T := []) (k := 0) (f := rd 3) (xv 3)) (va_cons (vo_e (T := []) (k := 0) (f := rd 1) (xv 1)) (va_nil) (by decide)) (by decide)))) (vo_e (T := []) (k := 1) (f := opF listD [odE [] 1 (opF slLD [odS [0, 0, 0, 0, 0, 0] 4, odE [] 0 (opF negD [odE [] 0 (cF (.int 1))])])]) (ve_callTy call_list_of (O_list (by decide)) (by rfl) (by exact bn "list" (by decide)) vb_list (va_cons (vo_e (T := []) (k := 1) (f := opF slLD [odS [0, 0, 0, 0, 0, 0] 4, odE [] 0 (opF negD [odE [] 0 (cF (.int 1))])]) (ve_slL sl_any (O_slL (by decide)) (xo 4) (vo_e (T := []) (k := 0) (f := opF negD [odE [] 0 (cF (.int 1))]) (ve_un un_neg (O_neg (k := 0)) (vo_e (T := []) (k := 0) (f := cF (.int 1)) (ve_int (k := 0))))) (by decide))) (va_nil) (by decide)))) (by decide))) (va_nil) (by decide)))) (vo_e (T := []) (k := 0) (f := cF (.int 1)) (ve_int (k := 0))) (by decide))) (va_nil) (by decide))) (fun s0 H0 C0 cl0 fp0 => vg_name (i := 5) (κ' := [0, 0, 0, 0, 0, 0]) (by decide) (by decide) rfl nd rfl (by first | exact Or.inl rfl | exact Or.inr rfl)) (fun s0 H0 C0 cl0 fp0 => vts_nil) (fun s0 H0 C0 cl0 fp0 => ve_share (k := 1) (ve_bin op_addA (O_add (by decide) (by decide)) (xo 4) (vo_e (T := []) (k := 0) (f := opF tupD [odE [] 0 (rd 5)]) (ve_tup (O_tup (k := 0) (by decide)) (va_cons (vo_e (T := []) (k := 0) (f := rd 5) (xv 5)) (va_nil) (by decide)))) (by decide))))   (vss_frz 2 (by decide) (vss_nil))))   (vss_cons (κ1 := [0, 0, 0, 0, 0, 0]) (s := retS (opF (sortedD false) [odS [0, 0, 0, 0, 0, 0] 2]))   (vs_ret (T := []) (f := opF (sortedD false) [odS [0, 0, 0, 0, 0, 0] 2]) (ve_share (k := 1) (ve_callB (cr_sortA hu) (O_sorted (by decide)) (by rfl) (by exact bn "sorted" (by decide)) vb_sorted (va_cons (xo 2) (va_nil) (by decide)))))   (vss_nil)))
  exact ⟨fa, fd, _, h, hm, F.kp, hb⟩
abbrev s_heaps : Stmt := topS 2
abbrev N_heaps : List Str := ["a", "b", "c", "told", "_", "rows", "line"]
theorem sc_heaps : FnScope N_heaps ["a", "b", "c"] (defScope s_heaps) := ⟨rfl, rfl, rfl, by decide +kernel, rfl, by decide +kernel, by decide +kernel⟩
def S_heaps : SemS := seqS (setS 3 (opF lstD [odE [] 0 (opF tupD [])])) (seqS (forS (rng1 [odS [0, 0, 0, 0, 0, 0, 0] 0]) (tgN 4) (seqS (setS 3 (lcF (clF (seqSrc (rd 3)) [5, 6] (tgN 5) (yesF) (clF (seqSrc (callF [odE [] 0 (ifF (truO (odS [0, 0, 0, 0, 0, 0, 0] 5)) (opF ixD [odS [0, 0, 0, 0, 0, 0, 0] 5, odE [] 0 (opF negD [odE [] 0 (cF (.int 1))])]) (opF mulD [odE [] 0 (opF tupD [odE [] 0 (rd 2)]), odS [0, 0, 0, 0, 0, 0, 0] 1])), odE [] 0 (rd 2)] F_lines_below)) [6] (tgN 6) (yesF) (oneF (opF addD [odS [0, 0, 0, 0, 0, 0, 0] 5, odE [] 0 (opF tupD [odE [] 0 (rd 6)])])))))) (nilS))) (seqS (retS (opF (sortedD false) [odS [0, 0, 0, 0, 0, 0, 0] 3])) (nilS)))
def F_heaps : Sem0 := fnF [] N_heaps.length S_heaps
theorem ok_heaps {P : Program} {w : World} {K : PySem.W.Frag} {mg : Str → Option Value} {base : Heap} {fa : Addr} {fd : FuncData} (F : Fun K "heaps" "heaps" s_heaps fa fd) (hm : mg "heaps" = some (.ref fa)) (hb : Binds K fd ["a", "b", "c"] []) (bn : ∀ x, x ∈ bnames → mg x = none) (C_lines_below : CalD P w K mg base 1 "lines_below" (spD ⟨K, P, w⟩ [] [0, 0] 0 F_lines_below)) : CalD P w K mg base 2 "heaps" (spD ⟨K, P, w⟩ [] [0, 0, 0] 0 F_heaps) := by
  have h : FnOk P w K mg base CX0 2 fa fd ["a", "b", "c"] (spD ⟨K, P, w⟩ [] [0, 0, 0] 0 (fnF [] N_heaps.length S_heaps)) := by
    refine fn_ok (lv := 1) (N := N_heaps) (κ' := [0, 0, 0, 0, 0, 0, 0]) (κp := [0, 0, 0]) (κl := [0, 0, 0, 0]) (Φ := []) (s := S_heaps) F sc_heaps rfl rfl (zero_out (by decide)) (fun cdv A outer s0 H E hr => ?_)
    have hu := hr.units
    have nd := sc_heaps.nd
    exact vss_cons (κ1 := [0, 0, 0, 0, 0, 0, 0]) (s := setS 3 (opF lstD [odE [] 0 (opF tupD [])]))   (vs_set (i := 3) (T := []) (j := 0) (f := opF lstD [odE [] 0 (opF tupD [])]) (by decide) (by decide) nd rfl (by first | exact Or.inl rfl | exact Or.inr rfl) (ve_share (k := 1) (ve_lst (O_lst (by decide)) (va_cons (vo_e (T := []) (k := 0) (f := opF tupD []) (ve_tup (O_tup (k := 0) (by decide)) (va_nil))) (va_nil) (by decide)))))   (vss_cons (κ1 := [0, 0, 0, 0, 0, 0, 0]) (s := forS (rng1 [odS [0, 0, 0, 0, 0, 0, 0] 0]) (tgN 4) (seqS (setS 3 (lcF (clF (seqSrc (rd 3)) [5, 6] (tgN 5) (yesF) (clF (seqSrc (callF [odE [] 0 (ifF (truO (odS [0, 0, 0, 0, 0, 0, 0] 5)) (opF ixD [odS [0, 0, 0, 0, 0, 0, 0] 5, odE [] 0 (opF negD [odE [] 0 (cF (.int 1))])]) (opF mulD [odE [] 0 (opF tupD [odE [] 0 (rd 2)]), odS [0, 0, 0, 0, 0, 0, 0] 1])), odE [] 0 (rd 2)] F_lines_below)) [6] (tgN 6) (yesF) (oneF (opF addD [odS [0, 0, 0, 0, 0, 0, 0] 5, odE [] 0 (opF tupD [odE [] 0 (rd 6)])])))))) (nilS)))   (vs_for (T := []) (f := rng1 [odS [0, 0, 0, 0, 0, 0, 0] 0]) (m := tgN 4) PassesOwn.never rfl (vi_rng1 (by rfl) (by exact bn "range" (by decide)) (va_cons (xo 0) (va_nil) (by decide))) (vg_name (i := 4) (κ' := [0, 0, 0, 0, 0, 0, 0]) (by decide) (by decide) rfl nd rfl (by first | exact Or.inl rfl | exact Or.inr rfl))  (vss_cons (κ1 := [0, 0, 0, 1, 0, 0, 0]) (s := setS 3 (lcF (clF (seqSrc (rd 3)) [5, 6] (tgN 5) (yesF) (clF (seqSrc (callF [odE [] 0 (ifF (truO (odS [0, 0, 0, 0, 0, 0, 0] 5)) (opF ixD [odS [0, 0, 0, 0, 0, 0, 0] 5, odE [] 0 (opF negD [odE [] 0 (cF (.int 1))])]) (opF mulD [odE [] 0 (opF tupD [odE [] 0 (rd 2)]), odS [0, 0, 0, 0, 0, 0, 0] 1])), odE [] 0 (rd 2)] F_lines_below)) [6] (tgN 6) (yesF) (oneF (opF addD [odS [0, 0, 0, 0, 0, 0, 0] 5, odE [] 0 (opF tupD [odE [] 0 (rd 6)])]))))))   (vs_setLc2 (i := 3) (κ := [0, 0, 0, 0, 0, 0, 0]) (T0 := []) (T1 := []) (T2 := []) (T3 := []) (T4 := []) (k := 0) (Φc := [0, 1, 2, 3, 4]) (Φd := [0, 1, 2, 3, 4, 5]) [] [("rows", 5), ("line", 6)] [6] (by decide) (by decide) (by decide) (by decide) (by decide) (by decide) (by decide) (by decide) (by decide) (by decide) (by decide) (by decide) rfl nd rfl rfl (sw_true rfl rfl rfl (by decide +kernel)) (vi_seq (xv 3)) (blkOk_by (by kernel_rfl)) (fun s0 H0 C0 cl0 fp0 => vg_name (i := 5) (κ' := [0, 0, 0, 0, 0, 0, 0]) (by decide) (by decide) rfl nd rfl (by first | exact Or.inl rfl | exact Or.inr rfl)) (fun s0 H0 C0 cl0 fp0 => vts_nil) (fun s0 H0 C0 cl0 fp0 => vi_seq (ve_fn (k := 0) (fn := F_lines_below) (C_lines_below.mono (by decide)) hr (va_cons (vo_e (T := []) (k := 0) (f := ifF (truO (odS [0, 0, 0, 0, 0, 0, 0] 5)) (opF ixD [odS [0, 0, 0, 0, 0, 0, 0] 5, odE [] 0 (opF negD [odE [] 0 (cF (.int 1))])]) (opF mulD [odE [] 0 (opF tupD [odE [] 0 (rd 2)]), odS [0, 0, 0, 0, 0, 0, 0] 1])) (ve_if (k := 0) (vt_tru (xo 5)) (ve_ix ix_seq (O_ix (by decide)) (xo 5) (vo_e (T := []) (k := 0) (f := opF negD [odE [] 0 (cF (.int 1))]) (ve_un un_neg (O_neg (k := 0)) (vo_e (T := []) (k := 0) (f := cF (.int 1)) (ve_int (k := 0))))) (by decide)) (ve_bin op_mulA (O_mul (k := 0)) (vo_e (T := []) (k := 0) (f := opF tupD [odE [] 0 (rd 2)]) (ve_tup (O_tup (k := 0) (by decide)) (va_cons (vo_e (T := []) (k := 0) (f := rd 2) (xv 2)) (va_nil) (by decide)))) (xo 1) (by decide)))) (va_cons (vo_e (T := []) (k := 0) (f := rd 2) (xv 2)) (va_nil) (by decide)) (by decide)))) (fun s0 H0 C0 cl0 fp0 => vg_name (i := 6) (κ' := [0, 0, 0, 0, 0, 0, 0]) (by decide) (by decide) rfl nd rfl (by first | exact Or.inl rfl | exact Or.inr rfl)) (fun s0 H0 C0 cl0 fp0 => vts_nil) (fun s0 H0 C0 cl0 fp0 => ve_share (k := 1) (ve_bin op_addA (O_add (by decide) (by decide)) (xo 5) (vo_e (T := []) (k := 0) (f := opF tupD [odE [] 0 (rd 6)]) (ve_tup (O_tup (k := 0) (by decide)) (va_cons (vo_e (T := []) (k := 0) (f := rd 6) (xv 6)) (va_nil) (by decide)))) (by decide))))   (vss_frz 3 (by decide) (vss_nil))))   (vss_cons (κ1 := [0, 0, 0, 0, 0, 0, 0]) (s := retS (opF (sortedD false) [odS [0, 0, 0, 0, 0, 0, 0] 3]))   (vs_ret (T := []) (f := opF (sortedD false) [odS [0, 0, 0, 0, 0, 0, 0] 3]) (ve_share (k := 1) (ve_callB (cr_sortA hu) (O_sorted (by decide)) (by rfl) (by exact bn "sorted" (by decide)) vb_sorted (va_cons (xo 3) (va_nil) (by decide)))))   (vss_nil)))
  exact ⟨fa, fd, _, h, hm, F.kp, hb⟩
abbrev s_count_heaps : Stmt := topS 3
abbrev N_count_heaps : List Str := ["a", "b", "c", "above", "below", "x", "y"]
theorem sc_count_heaps : FnScope N_count_heaps ["a", "b", "c"] (defScope s_count_heaps) := ⟨rfl, rfl, rfl, by decide +kernel, rfl, by decide +kernel, by decide +kernel⟩
def S_count_heaps : SemS := seqS (par2 3 4 (cF (.int 1)) (cF (.int 1))) (seqS (forS (rng2 [odE [] 0 (cF (.int 1)), odE [] 1 (opF addD [odS [0, 0, 0, 0, 0, 0, 0] 0, odE [] 0 (cF (.int 1))])]) (tgN 5) (seqS (forS (rng2 [odE [] 0 (cF (.int 1)), odE [] 1 (opF addD [odS [0, 0, 0, 0, 0, 0, 0] 1, odE [] 0 (cF (.int 1))])]) (tgN 6) (seqS (setS 3 (opF mulD [odS [0, 0, 0, 0, 0, 0, 0] 3, odE [] 0 (opF subD [odE [] 1 (opF addD [odE [] 1 (opF addD [odS [0, 0, 0, 0, 0, 0, 0] 5, odS [0, 0, 0, 0, 0, 0, 0] 6]), odS [0, 0, 0, 0, 0, 0, 0] 2]), odE [] 0 (cF (.int 1))])])) (seqS (setS 4 (opF mulD [odS [0, 0, 0, 0, 0, 0, 0] 4, odE [] 0 (opF subD [odE [] 1 (opF addD [odS [0, 0, 0, 0, 0, 0, 0] 5, odS [0, 0, 0, 0, 0, 0, 0] 6]), odE [] 0 (cF (.int 1))])])) (nilS)))) (nilS))) (seqS (retS (opF fdivD [odS [0, 0, 0, 0, 0, 0, 0] 3, odS [0, 0, 0, 0, 0, 0, 0] 4])) (nilS)))
def F_count_heaps : Sem0 := fnF [] N_count_heaps.length S_count_heaps
theorem ok_count_heaps {P : Program} {w : World} {K : PySem.W.Frag} {mg : Str → Option Value} {base : Heap} {fa : Addr} {fd : FuncData} (F : Fun K "count_heaps" "count_heaps" s_count_heaps fa fd) (hm : mg "count_heaps" = some (.ref fa)) (hb : Binds K fd ["a", "b", "c"] []) (bn : ∀ x, x ∈ bnames → mg x = none)  : CalD P w K mg base 1 "count_heaps" (spD ⟨K, P, w⟩ [] [0, 0, 0] 0 F_count_heaps) := by
  have h : FnOk P w K mg base CX0 1 fa fd ["a", "b", "c"] (spD ⟨K, P, w⟩ [] [0, 0, 0] 0 (fnF [] N_count_heaps.length S_count_heaps)) := by
    refine fn_ok (lv := 0) (N := N_count_heaps) (κ' := [0, 0, 0, 0, 0, 0, 0]) (κp := [0, 0, 0]) (κl := [0, 0, 0, 0]) (Φ := []) (s := S_count_heaps) F sc_count_heaps rfl rfl (zero_out (by decide)) (fun cdv A outer s0 H E hr => ?_)
    have hu := hr.units
    have nd := sc_count_heaps.nd
    exact vss_cons (κ1 := [0, 0, 0, 0, 0, 0, 0]) (s := par2 3 4 (cF (.int 1)) (cF (.int 1)))   (vs_tup2 (i := 3) (j := 4) (k1 := 0) (f := cF (.int 1)) (k2 := 0) (g := cF (.int 1)) (T := []) (U := []) (by decide) (by decide) (by decide) (by decide) rfl nd rfl rfl (by first | exact Or.inl rfl | exact Or.inr rfl) (by first | exact Or.inl rfl | exact Or.inr rfl) (ve_int (k := 0)) (ve_int (k := 0)))   (vss_cons (κ1 := [0, 0, 0, 0, 0, 0, 0]) (s := forS (rng2 [odE [] 0 (cF (.int 1)), odE [] 1 (opF addD [odS [0, 0, 0, 0, 0, 0, 0] 0, odE [] 0 (cF (.int 1))])]) (tgN 5) (seqS (forS (rng2 [odE [] 0 (cF (.int 1)), odE [] 1 (opF addD [odS [0, 0, 0, 0, 0, 0, 0] 1, odE [] 0 (cF (.int 1))])]) (tgN 6) (seqS (setS 3 (opF mulD [odS [0, 0, 0, 0, 0, 0, 0] 3, odE [] 0 (opF subD [odE [] 1 (opF addD [odE [] 1 (opF addD [odS [0, 0, 0, 0, 0, 0, 0] 5, odS [0, 0, 0, 0, 0, 0, 0] 6]), odS [0, 0, 0, 0, 0, 0, 0] 2]), odE [] 0 (cF (.int 1))])])) (seqS (setS 4 (opF mulD [odS [0, 0, 0, 0, 0, 0, 0] 4, odE [] 0 (opF subD [odE [] 1 (opF addD [odS [0, 0, 0, 0, 0, 0, 0] 5, odS [0, 0, 0, 0, 0, 0, 0] 6]), odE [] 0 (cF (.int 1))])])) (nilS)))) (nilS)))   (vs_for (T := []) (f := rng2 [odE [] 0 (cF (.int 1)), odE [] 1 (opF addD [odS [0, 0, 0, 0, 0, 0, 0] 0, odE [] 0 (cF (.int 1))])]) (m := tgN 5) PassesOwn.never rfl (vi_rng2 (by rfl) (by exact bn "range" (by decide)) (va_cons (vo_e (T := []) (k := 0) (f := cF (.int 1)) (ve_int (k := 0))) (va_cons (vo_e (T := []) (k := 1) (f := opF addD [odS [0, 0, 0, 0, 0, 0, 0] 0, odE [] 0 (cF (.int 1))]) (ve_bin op_addA (O_add (by decide) (by decide)) (xo 0) (vo_e (T := []) (k := 0) (f := cF (.int 1)) (ve_int (k := 0))) (by decide))) (va_nil) (by decide)) (by decide))) (vg_name (i := 5) (κ' := [0, 0, 0, 0, 0, 0, 0]) (by decide) (by decide) rfl nd rfl (by first | exact Or.inl rfl | exact Or.inr rfl))  (vss_cons (κ1 := [0, 0, 0, 0, 0, 0, 0]) (s := forS (rng2 [odE [] 0 (cF (.int 1)), odE [] 1 (opF addD [odS [0, 0, 0, 0, 0, 0, 0] 1, odE [] 0 (cF (.int 1))])]) (tgN 6) (seqS (setS 3 (opF mulD [odS [0, 0, 0, 0, 0, 0, 0] 3, odE [] 0 (opF subD [odE [] 1 (opF addD [odE [] 1 (opF addD [odS [0, 0, 0, 0, 0, 0, 0] 5, odS [0, 0, 0, 0, 0, 0, 0] 6]), odS [0, 0, 0, 0, 0, 0, 0] 2]), odE [] 0 (cF (.int 1))])])) (seqS (setS 4 (opF mulD [odS [0, 0, 0, 0, 0, 0, 0] 4, odE [] 0 (opF subD [odE [] 1 (opF addD [odS [0, 0, 0, 0, 0, 0, 0] 5, odS [0, 0, 0, 0, 0, 0, 0] 6]), odE [] 0 (cF (.int 1))])])) (nilS))))   (vs_for (T := []) (f := rng2 [odE [] 0 (cF (.int 1)), odE [] 1 (opF addD [odS [0, 0, 0, 0, 0, 0, 0] 1, odE [] 0 (cF (.int 1))])]) (m := tgN 6) PassesOwn.never rfl (vi_rng2 (by rfl) (by exact bn "range" (by decide)) (va_cons (vo_e (T := []) (k := 0) (f := cF (.int 1)) (ve_int (k := 0))) (va_cons (vo_e (T := []) (k := 1) (f := opF addD [odS [0, 0, 0, 0, 0, 0, 0] 1, odE [] 0 (cF (.int 1))]) (ve_bin op_addA (O_add (by decide) (by decide)) (xo 1) (vo_e (T := []) (k := 0) (f := cF (.int 1)) (ve_int (k := 0))) (by decide))) (va_nil) (by decide)) (by decide))) (vg_name (i := 6) (κ' := [0, 0, 0, 0, 0, 0, 0]) (by decide) (by decide) rfl nd rfl (by first | exact Or.inl rfl | exact Or.inr rfl))  (vss_cons (κ1 := [0, 0, 0, 0, 0, 0, 0]) (s := setS 3 (opF mulD [odS [0, 0, 0, 0, 0, 0, 0] 3, odE [] 0 (opF subD [odE [] 1 (opF addD [odE [] 1 (opF addD [odS [0, 0, 0, 0, 0, 0, 0] 5, odS [0, 0, 0, 0, 0, 0, 0] 6]), odS [0, 0, 0, 0, 0, 0, 0] 2]), odE [] 0 (cF (.int 1))])]))   (vs_set (i := 3) (T := []) (j := 0) (f := opF mulD [odS [0, 0, 0, 0, 0, 0, 0] 3, odE [] 0 (opF subD [odE [] 1 (opF addD [odE [] 1 (opF addD [odS [0, 0, 0, 0, 0, 0, 0] 5, odS [0, 0, 0, 0, 0, 0, 0] 6]), odS [0, 0, 0, 0, 0, 0, 0] 2]), odE [] 0 (cF (.int 1))])]) (by decide) (by decide) nd rfl (by first | exact Or.inl rfl | exact Or.inr rfl) (ve_bin op_mulA (O_mul (k := 0)) (xo 3) (vo_e (T := []) (k := 0) (f := opF subD [odE [] 1 (opF addD [odE [] 1 (opF addD [odS [0, 0, 0, 0, 0, 0, 0] 5, odS [0, 0, 0, 0, 0, 0, 0] 6]), odS [0, 0, 0, 0, 0, 0, 0] 2]), odE [] 0 (cF (.int 1))]) (ve_bin op_sub (O_sub (k := 0)) (vo_e (T := []) (k := 1) (f := opF addD [odE [] 1 (opF addD [odS [0, 0, 0, 0, 0, 0, 0] 5, odS [0, 0, 0, 0, 0, 0, 0] 6]), odS [0, 0, 0, 0, 0, 0, 0] 2]) (ve_bin op_addA (O_add (by decide) (by decide)) (vo_e (T := []) (k := 1) (f := opF addD [odS [0, 0, 0, 0, 0, 0, 0] 5, odS [0, 0, 0, 0, 0, 0, 0] 6]) (ve_bin op_addA (O_add (by decide) (by decide)) (xo 5) (xo 6) (by decide))) (xo 2) (by decide))) (vo_e (T := []) (k := 0) (f := cF (.int 1)) (ve_int (k := 0))) (by decide))) (by decide)))   (vss_cons (κ1 := [0, 0, 0, 0, 0, 0, 0]) (s := setS 4 (opF mulD [odS [0, 0, 0, 0, 0, 0, 0] 4, odE [] 0 (opF subD [odE [] 1 (opF addD [odS [0, 0, 0, 0, 0, 0, 0] 5, odS [0, 0, 0, 0, 0, 0, 0] 6]), odE [] 0 (cF (.int 1))])]))   (vs_set (i := 4) (T := []) (j := 0) (f := opF mulD [odS [0, 0, 0, 0, 0, 0, 0] 4, odE [] 0 (opF subD [odE [] 1 (opF addD [odS [0, 0, 0, 0, 0, 0, 0] 5, odS [0, 0, 0, 0, 0, 0, 0] 6]), odE [] 0 (cF (.int 1))])]) (by decide) (by decide) nd rfl (by first | exact Or.inl rfl | exact Or.inr rfl) (ve_bin op_mulA (O_mul (k := 0)) (xo 4) (vo_e (T := []) (k := 0) (f := opF subD [odE [] 1 (opF addD [odS [0, 0, 0, 0, 0, 0, 0] 5, odS [0, 0, 0, 0, 0, 0, 0] 6]), odE [] 0 (cF (.int 1))]) (ve_bin op_sub (O_sub (k := 0)) (vo_e (T := []) (k := 1) (f := opF addD [odS [0, 0, 0, 0, 0, 0, 0] 5, odS [0, 0, 0, 0, 0, 0, 0] 6]) (ve_bin op_addA (O_add (by decide) (by decide)) (xo 5) (xo 6) (by decide))) (vo_e (T := []) (k := 0) (f := cF (.int 1)) (ve_int (k := 0))) (by decide))) (by decide)))   (vss_nil))))   (vss_nil)))   (vss_cons (κ1 := [0, 0, 0, 0, 0, 0, 0]) (s := retS (opF fdivD [odS [0, 0, 0, 0, 0, 0, 0] 3, odS [0, 0, 0, 0, 0, 0, 0] 4]))   (vs_ret (T := []) (f := opF fdivD [odS [0, 0, 0, 0, 0, 0, 0] 3, odS [0, 0, 0, 0, 0, 0, 0] 4]) (ve_bin op_fdivA (O_fdiv (k := 0)) (xo 3) (xo 4) (by decide)))   (vss_nil)))
  exact ⟨fa, fd, _, h, hm, F.kp, hb⟩
abbrev s_cubes : Stmt := topS 4
abbrev N_cubes : List Str := ["rows", "told", "x", "row", "y", "height", "z"]
theorem sc_cubes : FnScope N_cubes ["rows"] (defScope s_cubes) := ⟨rfl, rfl, rfl, by decide +kernel, rfl, by decide +kernel, by decide +kernel⟩
def S_cubes : SemS := seqS (setS 1 (opF lstD [])) (seqS (forS (enumSrc (rd 0)) (tgT [tgN 2, tgN 3]) (seqS (forS (enumSrc (rd 3)) (tgT [tgN 4, tgN 5]) (seqS (setS 1 (opF addD [odS [0, 0, 0, 0, 0, 0, 0] 1, odE [] 1 (lcF (clF (rng1 [odS [0, 0, 0, 0, 0, 0, 0] 5]) [6] (tgN 6) (yesF) (oneF (opF tupD [odE [] 0 (rd 2), odE [] 0 (rd 4), odE [] 0 (rd 6)]))))])) (nilS))) (nilS))) (seqS (retS (opF (sortedD false) [odS [0, 0, 0, 0, 0, 0, 0] 1])) (nilS)))
def F_cubes : Sem0 := fnF [] N_cubes.length S_cubes
theorem ok_cubes {P : Program} {w : World} {K : PySem.W.Frag} {mg : Str → Option Value} {base : Heap} {fa : Addr} {fd : FuncData} (F : Fun K "cubes" "cubes" s_cubes fa fd) (hm : mg "cubes" = some (.ref fa)) (hb : Binds K fd ["rows"] []) (bn : ∀ x, x ∈ bnames → mg x = none)  : CalD P w K mg base 1 "cubes" (spD ⟨K, P, w⟩ [] [0] 0 F_cubes) := by
  have h : FnOk P w K mg base CX0 1 fa fd ["rows"] (spD ⟨K, P, w⟩ [] [0] 0 (fnF [] N_cubes.length S_cubes)) := by
    refine fn_ok (lv := 0) (N := N_cubes) (κ' := [0, 0, 0, 0, 0, 0, 0]) (κp := [0]) (κl := [0, 0, 0, 0, 0, 0]) (Φ := []) (s := S_cubes) F sc_cubes rfl rfl (zero_out (by decide)) (fun cdv A outer s0 H E hr => ?_)
    have hu := hr.units
    have nd := sc_cubes.nd
    exact vss_cons (κ1 := [0, 0, 0, 0, 0, 0, 0]) (s := setS 1 (opF lstD []))   (vs_set (i := 1) (T := []) (j := 0) (f := opF lstD []) (by decide) (by decide) nd rfl (by first | exact Or.inl rfl | exact Or.inr rfl) (ve_share (k := 1) (ve_lst (O_lst (by decide)) (va_nil))))   (vss_cons (κ1 := [0, 0, 0, 0, 0, 0, 0]) (s := forS (enumSrc (rd 0)) (tgT [tgN 2, tgN 3]) (seqS (forS (enumSrc (rd 3)) (tgT [tgN 4, tgN 5]) (seqS (setS 1 (opF addD [odS [0, 0, 0, 0, 0, 0, 0] 1, odE [] 1 (lcF (clF (rng1 [odS [0, 0, 0, 0, 0, 0, 0] 5]) [6] (tgN 6) (yesF) (oneF (opF tupD [odE [] 0 (rd 2), odE [] 0 (rd 4), odE [] 0 (rd 6)]))))])) (nilS))) (nilS)))   (vs_for (T := []) (f := enumSrc (rd 0)) (m := tgT [tgN 2, tgN 3]) PassesOwn.never rfl (vi_enum (by rfl) (by exact bn "enumerate" (by decide)) (xv 0)) (vg_tup rfl (vgs_cons (κ1 := [0, 0, 0, 0, 0, 0, 0]) (vg_name (i := 2) (κ' := [0, 0, 0, 0, 0, 0, 0]) (by decide) (by decide) rfl nd rfl (by first | exact Or.inl rfl | exact Or.inr rfl)) (vgs_cons (κ1 := [0, 0, 0, 0, 0, 0, 0]) (vg_name (i := 3) (κ' := [0, 0, 0, 0, 0, 0, 0]) (by decide) (by decide) rfl nd rfl (by first | exact Or.inl rfl | exact Or.inr rfl)) (vgs_nil))))  (vss_cons (κ1 := [0, 0, 0, 0, 0, 0, 0]) (s := forS (enumSrc (rd 3)) (tgT [tgN 4, tgN 5]) (seqS (setS 1 (opF addD [odS [0, 0, 0, 0, 0, 0, 0] 1, odE [] 1 (lcF (clF (rng1 [odS [0, 0, 0, 0, 0, 0, 0] 5]) [6] (tgN 6) (yesF) (oneF (opF tupD [odE [] 0 (rd 2), odE [] 0 (rd 4), odE [] 0 (rd 6)]))))])) (nilS)))   (vs_for (T := []) (f := enumSrc (rd 3)) (m := tgT [tgN 4, tgN 5]) PassesOwn.never rfl (vi_enum (by rfl) (by exact bn "enumerate" (by decide)) (xv 3)) (vg_tup rfl (vgs_cons (κ1 := [0, 0, 0, 0, 0, 0, 0]) (vg_name (i := 4) (κ' := [0, 0, 0, 0, 0, 0, 0]) (by decide) (by decide) rfl nd rfl (by first | exact Or.inl rfl | exact Or.inr rfl)) (vgs_cons (κ1 := [0, 0, 0, 0, 0, 0, 0]) (vg_name (i := 5) (κ' := [0, 0, 0, 0, 0, 0, 0]) (by decide) (by decide) rfl nd rfl (by first | exact Or.inl rfl | exact Or.inr rfl)) (vgs_nil))))  (vss_cons (κ1 := [0, 0, 0, 0, 0, 0, 0]) (s := setS 1 (opF addD [odS [0, 0, 0, 0, 0, 0, 0] 1, odE [] 1 (lcF (clF (rng1 [odS [0, 0, 0, 0, 0, 0, 0] 5]) [6] (tgN 6) (yesF) (oneF (opF tupD [odE [] 0 (rd 2), odE [] 0 (rd 4), odE [] 0 (rd 6)]))))]))   (vs_set (i := 1) (T := []) (j := 0) (f := opF addD [odS [0, 0, 0, 0, 0, 0, 0] 1, odE [] 1 (lcF (clF (rng1 [odS [0, 0, 0, 0, 0, 0, 0] 5]) [6] (tgN 6) (yesF) (oneF (opF tupD [odE [] 0 (rd 2), odE [] 0 (rd 4), odE [] 0 (rd 6)]))))]) (by decide) (by decide) nd rfl (by first | exact Or.inl rfl | exact Or.inr rfl) (ve_share (k := 1) (ve_bin op_addA (O_add (by decide) (by decide)) (xo 1) (vo_e (T := []) (k := 1) (f := lcF (clF (rng1 [odS [0, 0, 0, 0, 0, 0, 0] 5]) [6] (tgN 6) (yesF) (oneF (opF tupD [odE [] 0 (rd 2), odE [] 0 (rd 4), odE [] 0 (rd 6)])))) (ve_lc (κ := [0, 0, 0, 0, 0, 0, 0]) (T0 := []) (T1 := []) (T2 := []) (k := 0) (Φc := [0, 1, 2, 3, 4, 5]) [] [("z", 6)] (by decide) (by decide) (by decide) (by decide) (by decide) (by decide) rfl nd (vi_rng1 (by rfl) (by exact bn "range" (by decide)) (va_cons (xo 5) (va_nil) (by decide))) (blkOk_by (by kernel_rfl)) (fun s0 H0 C0 cl0 fp0 => vg_name (i := 6) (κ' := [0, 0, 0, 0, 0, 0, 0]) (by decide) (by decide) rfl nd rfl (by first | exact Or.inl rfl | exact Or.inr rfl)) (fun s0 H0 C0 cl0 fp0 => vts_nil) (fun s0 H0 C0 cl0 fp0 => ve_tup (O_tup (k := 0) (by decide)) (va_cons (vo_e (T := []) (k := 0) (f := rd 2) (xv 2)) (va_cons (vo_e (T := []) (k := 0) (f := rd 4) (xv 4)) (va_cons (vo_e (T := []) (k := 0) (f := rd 6) (xv 6)) (va_nil) (by decide)) (by decide)) (by decide))))) (by decide))))   (vss_nil)))   (vss_nil)))   (vss_cons (κ1 := [0, 0, 0, 0, 0, 0, 0]) (s := retS (opF (sortedD false) [odS [0, 0, 0, 0, 0, 0, 0] 1]))   (vs_ret (T := []) (f := opF (sortedD false) [odS [0, 0, 0, 0, 0, 0, 0] 1]) (ve_share (k := 1) (ve_callB (cr_sortA hu) (O_sorted (by decide)) (by rfl) (by exact bn "sorted" (by decide)) vb_sorted (va_cons (xo 1) (va_nil) (by decide)))))   (vss_nil)))
  exact ⟨fa, fd, _, h, hm, F.kp, hb⟩
abbrev s_from_cubes : Stmt := topS 5
abbrev N_from_cubes : List Str := ["cells", "a", "b", "told", "x", "y", "_", "row"]
theorem sc_from_cubes : FnScope N_from_cubes ["cells", "a", "b"] (defScope s_from_cubes) := ⟨rfl, rfl, rfl, by decide +kernel, rfl, by decide +kernel, by decide +kernel⟩
def S_from_cubes : SemS := seqS (setS 3 (lcF (clF (rng1 [odS [0, 0, 0, 0, 0, 0, 0, 0] 1]) [6] (tgN 6) (yesF) (oneF (opF mulLD [odE [] 1 (opF lstD [odE [] 0 (cF (.int 0))]), odS [0, 0, 0, 0, 0, 0, 0, 0] 2]))))) (seqS (forS (seqSrc (rd 0)) (tgT [tgN 4, tgN 5, tgN 6]) (seqS (incS 3 4 5 1) (nilS))) (seqS (retS (opF tupleD [odE [] 1 (lcF (clF (seqSrc (rd 3)) [7] (tgN 7) (yesF) (oneF (opF tupleD [odS [0, 0, 0, 0, 0, 0, 0, 0] 7]))))])) (nilS)))
def F_from_cubes : Sem0 := fnF [] N_from_cubes.length S_from_cubes
theorem ok_from_cubes {P : Program} {w : World} {K : PySem.W.Frag} {mg : Str → Option Value} {base : Heap} {fa : Addr} {fd : FuncData} (F : Fun K "from_cubes" "from_cubes" s_from_cubes fa fd) (hm : mg "from_cubes" = some (.ref fa)) (hb : Binds K fd ["cells", "a", "b"] []) (bn : ∀ x, x ∈ bnames → mg x = none)  : CalD P w K mg base 1 "from_cubes" (spD ⟨K, P, w⟩ [] [0, 0, 0] 0 F_from_cubes) := by
  have h : FnOk P w K mg base CX0 1 fa fd ["cells", "a", "b"] (spD ⟨K, P, w⟩ [] [0, 0, 0] 0 (fnF [] N_from_cubes.length S_from_cubes)) := by
    refine fn_ok (lv := 0) (N := N_from_cubes) (κ' := [0, 0, 0, 0, 0, 0, 0, 0]) (κp := [0, 0, 0]) (κl := [0, 0, 0, 0, 0]) (Φ := []) (s := S_from_cubes) F sc_from_cubes rfl rfl (zero_out (by decide)) (fun cdv A outer s0 H E hr => ?_)
    have hu := hr.units
    have nd := sc_from_cubes.nd
    exact vss_cons (κ1 := [0, 0, 0, 2, 0, 0, 0, 0]) (s := setS 3 (lcF (clF (rng1 [odS [0, 0, 0, 0, 0, 0, 0, 0] 1]) [6] (tgN 6) (yesF) (oneF (opF mulLD [odE [] 1 (opF lstD [odE [] 0 (cF (.int 0))]), odS [0, 0, 0, 0, 0, 0, 0, 0] 2])))))   (vs_setLc (i := 3) (κ := [0, 0, 0, 0, 0, 0, 0, 0]) (T0 := []) (T1 := []) (T2 := []) (k := 1) (Φc := [0, 1, 2, 3, 4, 5, 7]) [] [("_", 6)] (by decide) (by decide) (by decide) (by decide) (by decide) (by decide) (by decide) (by decide) rfl nd rfl rfl (sw_true rfl rfl rfl (by decide +kernel)) (vi_rng1 (by rfl) (by exact bn "range" (by decide)) (va_cons (xo 1) (va_nil) (by decide))) (blkOk_by (by kernel_rfl)) (fun s0 H0 C0 cl0 fp0 => vg_name (i := 6) (κ' := [0, 0, 0, 0, 0, 0, 0, 0]) (by decide) (by decide) rfl nd rfl (by first | exact Or.inl rfl | exact Or.inr rfl)) (fun s0 H0 C0 cl0 fp0 => vts_nil) (fun s0 H0 C0 cl0 fp0 => ve_bin op_rep (O_mulL (by decide)) (vo_e (T := []) (k := 1) (f := opF lstD [odE [] 0 (cF (.int 0))]) (ve_lst (O_lst (by decide)) (va_cons (vo_e (T := []) (k := 0) (f := cF (.int 0)) (ve_int (k := 0))) (va_nil) (by decide)))) (xo 2) (by decide)))   (vss_cons (κ1 := [0, 0, 0, 2, 0, 0, 0, 0]) (s := forS (seqSrc (rd 0)) (tgT [tgN 4, tgN 5, tgN 6]) (seqS (incS 3 4 5 1) (nilS)))   (vs_for (T := []) (f := seqSrc (rd 0)) (m := tgT [tgN 4, tgN 5, tgN 6]) PassesOwn.never rfl (vi_seq (xv 0)) (vg_tup rfl (vgs_cons (κ1 := [0, 0, 0, 2, 0, 0, 0, 0]) (vg_name (i := 4) (κ' := [0, 0, 0, 2, 0, 0, 0, 0]) (by decide) (by decide) rfl nd rfl (by first | exact Or.inl rfl | exact Or.inr rfl)) (vgs_cons (κ1 := [0, 0, 0, 2, 0, 0, 0, 0]) (vg_name (i := 5) (κ' := [0, 0, 0, 2, 0, 0, 0, 0]) (by decide) (by decide) rfl nd rfl (by first | exact Or.inl rfl | exact Or.inr rfl)) (vgs_cons (κ1 := [0, 0, 0, 2, 0, 0, 0, 0]) (vg_name (i := 6) (κ' := [0, 0, 0, 2, 0, 0, 0, 0]) (by decide) (by decide) rfl nd rfl (by first | exact Or.inl rfl | exact Or.inr rfl)) (vgs_nil)))))  (vss_cons (κ1 := [0, 0, 0, 2, 0, 0, 0, 0]) (s := incS 3 4 5 1)   (vs_inc2 (t := 3) (a := 4) (b := 5) (by decide) rfl (by first | exact Or.inl rfl | exact Or.inr (Or.inl rfl) | exact Or.inr (Or.inr rfl)) rfl (by first | exact Or.inl rfl | exact Or.inr (Or.inl rfl) | exact Or.inr (Or.inr rfl)) rfl (by first | exact Or.inl rfl | exact Or.inr (Or.inl rfl) | exact Or.inr (Or.inr rfl)))   (vss_nil)))   (vss_frz 3 (by decide) (vss_cons (κ1 := [0, 0, 0, 0, 0, 0, 0, 0]) (s := retS (opF tupleD [odE [] 1 (lcF (clF (seqSrc (rd 3)) [7] (tgN 7) (yesF) (oneF (opF tupleD [odS [0, 0, 0, 0, 0, 0, 0, 0] 7]))))]))   (vs_ret (T := []) (f := opF tupleD [odE [] 1 (lcF (clF (seqSrc (rd 3)) [7] (tgN 7) (yesF) (oneF (opF tupleD [odS [0, 0, 0, 0, 0, 0, 0, 0] 7]))))]) (ve_callTy call_tuple_of (O_tuple (k := 0) (by decide)) (by rfl) (by exact bn "tuple" (by decide)) vb_tuple (va_cons (vo_e (T := []) (k := 1) (f := lcF (clF (seqSrc (rd 3)) [7] (tgN 7) (yesF) (oneF (opF tupleD [odS [0, 0, 0, 0, 0, 0, 0, 0] 7])))) (ve_lc (κ := [0, 0, 0, 0, 0, 0, 0, 0]) (T0 := []) (T1 := []) (T2 := []) (k := 0) (Φc := [0, 1, 2, 3, 4, 5, 6]) [] [("row", 7)] (by decide) (by decide) (by decide) (by decide) (by decide) (by decide) rfl nd (vi_seq (xv 3)) (blkOk_by (by kernel_rfl)) (fun s0 H0 C0 cl0 fp0 => vg_name (i := 7) (κ' := [0, 0, 0, 0, 0, 0, 0, 0]) (by decide) (by decide) rfl nd rfl (by first | exact Or.inl rfl | exact Or.inr rfl)) (fun s0 H0 C0 cl0 fp0 => vts_nil) (fun s0 H0 C0 cl0 fp0 => ve_callTy call_tuple_of (O_tuple (k := 0) (by decide)) (by rfl) (by exact bn "tuple" (by decide)) vb_tuple (va_cons (xo 7) (va_nil) (by decide))))) (va_nil) (by decide))))   (vss_nil))))
  exact ⟨fa, fd, _, h, hm, F.kp, hb⟩
abbrev s_moved : Stmt := topS 6
abbrev N_moved : List Str := ["cells", "order", "cell"]
theorem sc_moved : FnScope N_moved ["cells", "order"] (defScope s_moved) := ⟨rfl, rfl, rfl, by decide +kernel, rfl, by decide +kernel, by decide +kernel⟩
def S_moved : SemS := seqS (retS (opF (sortedD false) [odE [] 1 (lcF (clF (seqSrc (rd 0)) [2] (tgN 2) (yesF) (oneF (opF tupD [odE [] 0 (opF ixD [odS [0, 0, 0] 2, odE [] 0 (opF ixD [odS [0, 0, 0] 1, odE [] 0 (cF (.int 0))])]), odE [] 0 (opF ixD [odS [0, 0, 0] 2, odE [] 0 (opF ixD [odS [0, 0, 0] 1, odE [] 0 (cF (.int 1))])]), odE [] 0 (opF ixD [odS [0, 0, 0] 2, odE [] 0 (opF ixD [odS [0, 0, 0] 1, odE [] 0 (cF (.int 2))])])]))))])) (nilS)
def F_moved : Sem0 := fnF [] N_moved.length S_moved
theorem ok_moved {P : Program} {w : World} {K : PySem.W.Frag} {mg : Str → Option Value} {base : Heap} {fa : Addr} {fd : FuncData} (F : Fun K "moved" "moved" s_moved fa fd) (hm : mg "moved" = some (.ref fa)) (hb : Binds K fd ["cells", "order"] []) (bn : ∀ x, x ∈ bnames → mg x = none)  : CalD P w K mg base 1 "moved" (spD ⟨K, P, w⟩ [] [0, 0] 0 F_moved) := by
  have h : FnOk P w K mg base CX0 1 fa fd ["cells", "order"] (spD ⟨K, P, w⟩ [] [0, 0] 0 (fnF [] N_moved.length S_moved)) := by
    refine fn_ok (lv := 0) (N := N_moved) (κ' := [0, 0, 0]) (κp := [0, 0]) (κl := [0]) (Φ := []) (s := S_moved) F sc_moved rfl rfl (zero_out (by decide)) (fun cdv A outer s0 H E hr => ?_)
    have hu := hr.units
    have nd := sc_moved.nd
    exact vss_cons (κ1 := [0, 0, 0]) (s := retS (opF (sortedD false) [odE [] 1 (lcF (clF (seqSrc (rd 0)) [2] (tgN 2) (yesF) (oneF (opF tupD [odE [] 0 (opF ixD [odS [0, 0, 0] 2, odE [] 0 (opF ixD [odS [0, 0, 0] 1, odE [] 0 (cF (.int 0))])]), odE [] 0 (opF ixD [odS [0, 0, 0] 2, odE [] 0 (opF ixD [odS [0, 0, 0] 1, odE [] 0 (cF (.int 1))])]), odE [] 0 (opF ixD [odS [0, 0, 0] 2, odE [] 0 (opF ixD [odS [0, 0, 0] 1, odE [] 0 (cF (.int 2))])])]))))]))   (vs_ret (T := []) (f := opF (sortedD false) [odE [] 1 (lcF (clF (seqSrc (rd 0)) [2] (tgN 2) (yesF) (oneF (opF tupD [odE [] 0 (opF ixD [odS [0, 0, 0] 2, odE [] 0 (opF ixD [odS [0, 0, 0] 1, odE [] 0 (cF (.int 0))])]), odE [] 0 (opF ixD [odS [0, 0, 0] 2, odE [] 0 (opF ixD [odS [0, 0, 0] 1, odE [] 0 (cF (.int 1))])]), odE [] 0 (opF ixD [odS [0, 0, 0] 2, odE [] 0 (opF ixD [odS [0, 0, 0] 1, odE [] 0 (cF (.int 2))])])]))))]) (ve_share (k := 1) (ve_callB (cr_sortA hu) (O_sorted (by decide)) (by rfl) (by exact bn "sorted" (by decide)) vb_sorted (va_cons (vo_e (T := []) (k := 1) (f := lcF (clF (seqSrc (rd 0)) [2] (tgN 2) (yesF) (oneF (opF tupD [odE [] 0 (opF ixD [odS [0, 0, 0] 2, odE [] 0 (opF ixD [odS [0, 0, 0] 1, odE [] 0 (cF (.int 0))])]), odE [] 0 (opF ixD [odS [0, 0, 0] 2, odE [] 0 (opF ixD [odS [0, 0, 0] 1, odE [] 0 (cF (.int 1))])]), odE [] 0 (opF ixD [odS [0, 0, 0] 2, odE [] 0 (opF ixD [odS [0, 0, 0] 1, odE [] 0 (cF (.int 2))])])])))) (ve_lc (κ := [0, 0, 0]) (T0 := []) (T1 := []) (T2 := []) (k := 0) (Φc := [0, 1]) [] [("cell", 2)] (by decide) (by decide) (by decide) (by decide) (by decide) (by decide) rfl nd (vi_seq (xv 0)) (blkOk_by (by kernel_rfl)) (fun s0 H0 C0 cl0 fp0 => vg_name (i := 2) (κ' := [0, 0, 0]) (by decide) (by decide) rfl nd rfl (by first | exact Or.inl rfl | exact Or.inr rfl)) (fun s0 H0 C0 cl0 fp0 => vts_nil) (fun s0 H0 C0 cl0 fp0 => ve_tup (O_tup (k := 0) (by decide)) (va_cons (vo_e (T := []) (k := 0) (f := opF ixD [odS [0, 0, 0] 2, odE [] 0 (opF ixD [odS [0, 0, 0] 1, odE [] 0 (cF (.int 0))])]) (ve_ix ix_seq (O_ix (by decide)) (xo 2) (vo_e (T := []) (k := 0) (f := opF ixD [odS [0, 0, 0] 1, odE [] 0 (cF (.int 0))]) (ve_ix ix_seq (O_ix (by decide)) (xo 1) (vo_e (T := []) (k := 0) (f := cF (.int 0)) (ve_int (k := 0))) (by decide))) (by decide))) (va_cons (vo_e (T := []) (k := 0) (f := opF ixD [odS [0, 0, 0] 2, odE [] 0 (opF ixD [odS [0, 0, 0] 1, odE [] 0 (cF (.int 1))])]) (ve_ix ix_seq (O_ix (by decide)) (xo 2) (vo_e (T := []) (k := 0) (f := opF ixD [odS [0, 0, 0] 1, odE [] 0 (cF (.int 1))]) (ve_ix ix_seq (O_ix (by decide)) (xo 1) (vo_e (T := []) (k := 0) (f := cF (.int 1)) (ve_int (k := 0))) (by decide))) (by decide))) (va_cons (vo_e (T := []) (k := 0) (f := opF ixD [odS [0, 0, 0] 2, odE [] 0 (opF ixD [odS [0, 0, 0] 1, odE [] 0 (cF (.int 2))])]) (ve_ix ix_seq (O_ix (by decide)) (xo 2) (vo_e (T := []) (k := 0) (f := opF ixD [odS [0, 0, 0] 1, odE [] 0 (cF (.int 2))]) (ve_ix ix_seq (O_ix (by decide)) (xo 1) (vo_e (T := []) (k := 0) (f := cF (.int 2)) (ve_int (k := 0))) (by decide))) (by decide))) (va_nil) (by decide)) (by decide)) (by decide))))) (va_nil) (by decide)))))   (vss_nil)
  exact ⟨fa, fd, _, h, hm, F.kp, hb⟩
abbrev s_swapped : Stmt := topS 7
abbrev N_swapped : List Str := ["rows", "at", "row"]
theorem sc_swapped : FnScope N_swapped ["rows"] (defScope s_swapped) := ⟨rfl, rfl, rfl, by decide +kernel, rfl, by decide +kernel, by decide +kernel⟩
def S_swapped : SemS := seqS (retS (opF tupleD [odE [] 1 (lcF (clF (rng1 [odE [] 0 (opF lenD [odE [] 0 (opF ixD [odS [0, 0, 0] 0, odE [] 0 (cF (.int 0))])])]) [1] (tgN 1) (yesF) (oneF (opF tupleD [odE [] 1 (lcF (clF (seqSrc (rd 0)) [2] (tgN 2) (yesF) (oneF (opF ixD [odS [0, 0, 0] 2, odS [0, 0, 0] 1]))))]))))])) (nilS)
def F_swapped : Sem0 := fnF [] N_swapped.length S_swapped
theorem ok_swapped {P : Program} {w : World} {K : PySem.W.Frag} {mg : Str → Option Value} {base : Heap} {fa : Addr} {fd : FuncData} (F : Fun K "swapped" "swapped" s_swapped fa fd) (hm : mg "swapped" = some (.ref fa)) (hb : Binds K fd ["rows"] []) (bn : ∀ x, x ∈ bnames → mg x = none)  : CalD P w K mg base 1 "swapped" (spD ⟨K, P, w⟩ [] [0] 0 F_swapped) := by
  have h : FnOk P w K mg base CX0 1 fa fd ["rows"] (spD ⟨K, P, w⟩ [] [0] 0 (fnF [] N_swapped.length S_swapped)) := by
    refine fn_ok (lv := 0) (N := N_swapped) (κ' := [0, 0, 0]) (κp := [0]) (κl := [0, 0]) (Φ := []) (s := S_swapped) F sc_swapped rfl rfl (zero_out (by decide)) (fun cdv A outer s0 H E hr => ?_)
    have hu := hr.units
    have nd := sc_swapped.nd
    exact vss_cons (κ1 := [0, 0, 0]) (s := retS (opF tupleD [odE [] 1 (lcF (clF (rng1 [odE [] 0 (opF lenD [odE [] 0 (opF ixD [odS [0, 0, 0] 0, odE [] 0 (cF (.int 0))])])]) [1] (tgN 1) (yesF) (oneF (opF tupleD [odE [] 1 (lcF (clF (seqSrc (rd 0)) [2] (tgN 2) (yesF) (oneF (opF ixD [odS [0, 0, 0] 2, odS [0, 0, 0] 1]))))]))))]))   (vs_ret (T := []) (f := opF tupleD [odE [] 1 (lcF (clF (rng1 [odE [] 0 (opF lenD [odE [] 0 (opF ixD [odS [0, 0, 0] 0, odE [] 0 (cF (.int 0))])])]) [1] (tgN 1) (yesF) (oneF (opF tupleD [odE [] 1 (lcF (clF (seqSrc (rd 0)) [2] (tgN 2) (yesF) (oneF (opF ixD [odS [0, 0, 0] 2, odS [0, 0, 0] 1]))))]))))]) (ve_callTy call_tuple_of (O_tuple (k := 0) (by decide)) (by rfl) (by exact bn "tuple" (by decide)) vb_tuple (va_cons (vo_e (T := []) (k := 1) (f := lcF (clF (rng1 [odE [] 0 (opF lenD [odE [] 0 (opF ixD [odS [0, 0, 0] 0, odE [] 0 (cF (.int 0))])])]) [1] (tgN 1) (yesF) (oneF (opF tupleD [odE [] 1 (lcF (clF (seqSrc (rd 0)) [2] (tgN 2) (yesF) (oneF (opF ixD [odS [0, 0, 0] 2, odS [0, 0, 0] 1]))))])))) (ve_lc (κ := [0, 0, 0]) (T0 := []) (T1 := []) (T2 := []) (k := 0) (Φc := [0, 2]) [] [("at", 1)] (by decide) (by decide) (by decide) (by decide) (by decide) (by decide) rfl nd (vi_rng1 (by rfl) (by exact bn "range" (by decide)) (va_cons (vo_e (T := []) (k := 0) (f := opF lenD [odE [] 0 (opF ixD [odS [0, 0, 0] 0, odE [] 0 (cF (.int 0))])]) (ve_callB call_len (O_len (k := 0)) (by rfl) (by exact bn "len" (by decide)) vb_len (va_cons (vo_e (T := []) (k := 0) (f := opF ixD [odS [0, 0, 0] 0, odE [] 0 (cF (.int 0))]) (ve_ix ix_seq (O_ix (by decide)) (xo 0) (vo_e (T := []) (k := 0) (f := cF (.int 0)) (ve_int (k := 0))) (by decide))) (va_nil) (by decide)))) (va_nil) (by decide))) (blkOk_by (by kernel_rfl)) (fun s0 H0 C0 cl0 fp0 => vg_name (i := 1) (κ' := [0, 0, 0]) (by decide) (by decide) rfl nd rfl (by first | exact Or.inl rfl | exact Or.inr rfl)) (fun s0 H0 C0 cl0 fp0 => vts_nil) (fun s0 H0 C0 cl0 fp0 => ve_callTy call_tuple_of (O_tuple (k := 0) (by decide)) (by rfl) (by exact bn "tuple" (by decide)) vb_tuple (va_cons (vo_e (T := []) (k := 1) (f := lcF (clF (seqSrc (rd 0)) [2] (tgN 2) (yesF) (oneF (opF ixD [odS [0, 0, 0] 2, odS [0, 0, 0] 1])))) (ve_lc (κ := [0, 0, 0]) (T0 := []) (T1 := []) (T2 := []) (k := 0) (Φc := [0, 1]) [] [("row", 2)] (by decide) (by decide) (by decide) (by decide) (by decide) (by decide) rfl nd (vi_seq (xv 0)) (blkOk_by (by kernel_rfl)) (fun s0 H0 C0 cl0 fp0 => vg_name (i := 2) (κ' := [0, 0, 0]) (by decide) (by decide) rfl nd rfl (by first | exact Or.inl rfl | exact Or.inr rfl)) (fun s0 H0 C0 cl0 fp0 => vts_nil) (fun s0 H0 C0 cl0 fp0 => ve_ix ix_seq (O_ix (by decide)) (xo 2) (xo 1) (by decide)))) (va_nil) (by decide))))) (va_nil) (by decide))))   (vss_nil)
  exact ⟨fa, fd, _, h, hm, F.kp, hb⟩
abbrev s_rolled : Stmt := topS 8
abbrev N_rolled : List Str := ["rows", "c"]
theorem sc_rolled : FnScope N_rolled ["rows", "c"] (defScope s_rolled) := ⟨rfl, rfl, rfl, by decide +kernel, rfl, by decide +kernel, by decide +kernel⟩
def S_rolled : SemS := seqS (retS (callF [odE [] 0 (callF [odE [] 0 (callF [odE [] 0 (rd 0)] F_cubes), odE [] 0 (opF tupD [odE [] 0 (cF (.int 2)), odE [] 0 (cF (.int 0)), odE [] 0 (cF (.int 1))])] F_moved), odE [] 0 (rd 1), odE [] 0 (opF lenD [odS [0, 0] 0])] F_from_cubes)) (nilS)
def F_rolled : Sem0 := fnF [] N_rolled.length S_rolled
theorem ok_rolled {P : Program} {w : World} {K : PySem.W.Frag} {mg : Str → Option Value} {base : Heap} {fa : Addr} {fd : FuncData} (F : Fun K "rolled" "rolled" s_rolled fa fd) (hm : mg "rolled" = some (.ref fa)) (hb : Binds K fd ["rows", "c"] []) (bn : ∀ x, x ∈ bnames → mg x = none) (C_cubes : CalD P w K mg base 1 "cubes" (spD ⟨K, P, w⟩ [] [0] 0 F_cubes)) (C_moved : CalD P w K mg base 1 "moved" (spD ⟨K, P, w⟩ [] [0, 0] 0 F_moved)) (C_from_cubes : CalD P w K mg base 1 "from_cubes" (spD ⟨K, P, w⟩ [] [0, 0, 0] 0 F_from_cubes)) : CalD P w K mg base 2 "rolled" (spD ⟨K, P, w⟩ [] [0, 0] 0 F_rolled) := by
  have h : FnOk P w K mg base CX0 2 fa fd ["rows", "c"] (spD ⟨K, P, w⟩ [] [0, 0] 0 (fnF [] N_rolled.length S_rolled)) := by
    refine fn_ok (lv := 1) (N := N_rolled) (κ' := [0, 0]) (κp := [0, 0]) (κl := []) (Φ := []) (s := S_rolled) F sc_rolled rfl rfl (zero_out (by decide)) (fun cdv A outer s0 H E hr => ?_)
    have hu := hr.units
    have nd := sc_rolled.nd
    exact vss_cons (κ1 := [0, 0]) (s := retS (callF [odE [] 0 (callF [odE [] 0 (callF [odE [] 0 (rd 0)] F_cubes), odE [] 0 (opF tupD [odE [] 0 (cF (.int 2)), odE [] 0 (cF (.int 0)), odE [] 0 (cF (.int 1))])] F_moved), odE [] 0 (rd 1), odE [] 0 (opF lenD [odS [0, 0] 0])] F_from_cubes))   (vs_ret (T := []) (f := callF [odE [] 0 (callF [odE [] 0 (callF [odE [] 0 (rd 0)] F_cubes), odE [] 0 (opF tupD [odE [] 0 (cF (.int 2)), odE [] 0 (cF (.int 0)), odE [] 0 (cF (.int 1))])] F_moved), odE [] 0 (rd 1), odE [] 0 (opF lenD [odS [0, 0] 0])] F_from_cubes) (ve_fn (k := 0) (fn := F_from_cubes) (C_from_cubes.mono (by decide)) hr (va_cons (vo_e (T := []) (k := 0) (f := callF [odE [] 0 (callF [odE [] 0 (rd 0)] F_cubes), odE [] 0 (opF tupD [odE [] 0 (cF (.int 2)), odE [] 0 (cF (.int 0)), odE [] 0 (cF (.int 1))])] F_moved) (ve_fn (k := 0) (fn := F_moved) (C_moved.mono (by decide)) hr (va_cons (vo_e (T := []) (k := 0) (f := callF [odE [] 0 (rd 0)] F_cubes) (ve_fn (k := 0) (fn := F_cubes) (C_cubes.mono (by decide)) hr (va_cons (vo_e (T := []) (k := 0) (f := rd 0) (xv 0)) (va_nil) (by decide)))) (va_cons (vo_e (T := []) (k := 0) (f := opF tupD [odE [] 0 (cF (.int 2)), odE [] 0 (cF (.int 0)), odE [] 0 (cF (.int 1))]) (ve_tup (O_tup (k := 0) (by decide)) (va_cons (vo_e (T := []) (k := 0) (f := cF (.int 2)) (ve_int (k := 0))) (va_cons (vo_e (T := []) (k := 0) (f := cF (.int 0)) (ve_int (k := 0))) (va_cons (vo_e (T := []) (k := 0) (f := cF (.int 1)) (ve_int (k := 0))) (va_nil) (by decide)) (by decide)) (by decide)))) (va_nil) (by decide)) (by decide)))) (va_cons (vo_e (T := []) (k := 0) (f := rd 1) (xv 1)) (va_cons (vo_e (T := []) (k := 0) (f := opF lenD [odS [0, 0] 0]) (ve_callB call_len (O_len (k := 0)) (by rfl) (by exact bn "len" (by decide)) vb_len (va_cons (xo 0) (va_nil) (by decide)))) (va_nil) (by decide)) (by decide)) (by decide))))   (vss_nil)
  exact ⟨fa, fd, _, h, hm, F.kp, hb⟩
abbrev s_filled_up : Stmt := topS 9
abbrev N_filled_up : List Str := ["rows", "c", "row", "entry"]
theorem sc_filled_up : FnScope N_filled_up ["rows", "c"] (defScope s_filled_up) := ⟨rfl, rfl, rfl, by decide +kernel, rfl, by decide +kernel, by decide +kernel⟩
def S_filled_up : SemS := seqS (retS (opF tupleD [odE [] 1 (lcF (clF (revSrc (rd 0)) [2] (tgN 2) (yesF) (oneF (opF tupleD [odE [] 1 (lcF (clF (revSrc (rd 2)) [3] (tgN 3) (yesF) (oneF (opF subD [odS [0, 0, 0, 0] 1, odS [0, 0, 0, 0] 3]))))]))))])) (nilS)
def F_filled_up : Sem0 := fnF [] N_filled_up.length S_filled_up
theorem ok_filled_up {P : Program} {w : World} {K : PySem.W.Frag} {mg : Str → Option Value} {base : Heap} {fa : Addr} {fd : FuncData} (F : Fun K "filled_up" "filled_up" s_filled_up fa fd) (hm : mg "filled_up" = some (.ref fa)) (hb : Binds K fd ["rows", "c"] []) (bn : ∀ x, x ∈ bnames → mg x = none)  : CalD P w K mg base 1 "filled_up" (spD ⟨K, P, w⟩ [] [0, 0] 0 F_filled_up) := by
  have h : FnOk P w K mg base CX0 1 fa fd ["rows", "c"] (spD ⟨K, P, w⟩ [] [0, 0] 0 (fnF [] N_filled_up.length S_filled_up)) := by
    refine fn_ok (lv := 0) (N := N_filled_up) (κ' := [0, 0, 0, 0]) (κp := [0, 0]) (κl := [0, 0]) (Φ := []) (s := S_filled_up) F sc_filled_up rfl rfl (zero_out (by decide)) (fun cdv A outer s0 H E hr => ?_)
    have hu := hr.units
    have nd := sc_filled_up.nd
    exact vss_cons (κ1 := [0, 0, 0, 0]) (s := retS (opF tupleD [odE [] 1 (lcF (clF (revSrc (rd 0)) [2] (tgN 2) (yesF) (oneF (opF tupleD [odE [] 1 (lcF (clF (revSrc (rd 2)) [3] (tgN 3) (yesF) (oneF (opF subD [odS [0, 0, 0, 0] 1, odS [0, 0, 0, 0] 3]))))]))))]))   (vs_ret (T := []) (f := opF tupleD [odE [] 1 (lcF (clF (revSrc (rd 0)) [2] (tgN 2) (yesF) (oneF (opF tupleD [odE [] 1 (lcF (clF (revSrc (rd 2)) [3] (tgN 3) (yesF) (oneF (opF subD [odS [0, 0, 0, 0] 1, odS [0, 0, 0, 0] 3]))))]))))]) (ve_callTy call_tuple_of (O_tuple (k := 0) (by decide)) (by rfl) (by exact bn "tuple" (by decide)) vb_tuple (va_cons (vo_e (T := []) (k := 1) (f := lcF (clF (revSrc (rd 0)) [2] (tgN 2) (yesF) (oneF (opF tupleD [odE [] 1 (lcF (clF (revSrc (rd 2)) [3] (tgN 3) (yesF) (oneF (opF subD [odS [0, 0, 0, 0] 1, odS [0, 0, 0, 0] 3]))))])))) (ve_lc (κ := [0, 0, 0, 0]) (T0 := []) (T1 := []) (T2 := []) (k := 0) (Φc := [0, 1, 3]) [] [("row", 2)] (by decide) (by decide) (by decide) (by decide) (by decide) (by decide) rfl nd (vi_rev (by rfl) (by exact bn "reversed" (by decide)) (xv 0)) (blkOk_by (by kernel_rfl)) (fun s0 H0 C0 cl0 fp0 => vg_name (i := 2) (κ' := [0, 0, 0, 0]) (by decide) (by decide) rfl nd rfl (by first | exact Or.inl rfl | exact Or.inr rfl)) (fun s0 H0 C0 cl0 fp0 => vts_nil) (fun s0 H0 C0 cl0 fp0 => ve_callTy call_tuple_of (O_tuple (k := 0) (by decide)) (by rfl) (by exact bn "tuple" (by decide)) vb_tuple (va_cons (vo_e (T := []) (k := 1) (f := lcF (clF (revSrc (rd 2)) [3] (tgN 3) (yesF) (oneF (opF subD [odS [0, 0, 0, 0] 1, odS [0, 0, 0, 0] 3])))) (ve_lc (κ := [0, 0, 0, 0]) (T0 := []) (T1 := []) (T2 := []) (k := 0) (Φc := [0, 1, 2]) [] [("entry", 3)] (by decide) (by decide) (by decide) (by decide) (by decide) (by decide) rfl nd (vi_rev (by rfl) (by exact bn "reversed" (by decide)) (xv 2)) (blkOk_by (by kernel_rfl)) (fun s0 H0 C0 cl0 fp0 => vg_name (i := 3) (κ' := [0, 0, 0, 0]) (by decide) (by decide) rfl nd rfl (by first | exact Or.inl rfl | exact Or.inr rfl)) (fun s0 H0 C0 cl0 fp0 => vts_nil) (fun s0 H0 C0 cl0 fp0 => ve_bin op_sub (O_sub (k := 0)) (xo 1) (xo 3) (by decide)))) (va_nil) (by decide))))) (va_nil) (by decide))))   (vss_nil)
  exact ⟨fa, fd, _, h, hm, F.kp, hb⟩
abbrev s_choose : Stmt := topS 11
abbrev N_choose : List Str := ["many", "some", "told", "at"]
theorem sc_choose : FnScope N_choose ["many", "some"] (defScope s_choose) := ⟨rfl, rfl, rfl, by decide +kernel, rfl, by decide +kernel, by decide +kernel⟩
def S_choose : SemS := seqS (ifS (orF (tstF (opF ltD [odS [0, 0, 0, 0] 1, odE [] 0 (cF (.int 0))])) (tstF (opF gtD [odS [0, 0, 0, 0] 1, odS [0, 0, 0, 0] 0]))) (seqS (retS (cF (.int 0))) (nilS)) (nilS)) (seqS (setS 2 (cF (.int 1))) (seqS (forS (rng1 [odS [0, 0, 0, 0] 1]) (tgN 3) (seqS (setS 2 (opF fdivD [odE [] 0 (opF mulD [odS [0, 0, 0, 0] 2, odE [] 0 (opF subD [odS [0, 0, 0, 0] 0, odS [0, 0, 0, 0] 3])]), odE [] 1 (opF addD [odS [0, 0, 0, 0] 3, odE [] 0 (cF (.int 1))])])) (nilS))) (seqS (retS (rd 2)) (nilS))))
def F_choose : Sem0 := fnF [] N_choose.length S_choose
theorem ok_choose {P : Program} {w : World} {K : PySem.W.Frag} {mg : Str → Option Value} {base : Heap} {fa : Addr} {fd : FuncData} (F : Fun K "choose" "choose" s_choose fa fd) (hm : mg "choose" = some (.ref fa)) (hb : Binds K fd ["many", "some"] []) (bn : ∀ x, x ∈ bnames → mg x = none)  : CalD P w K mg base 1 "choose" (spD ⟨K, P, w⟩ [] [0, 0] 0 F_choose) := by
  have h : FnOk P w K mg base CX0 1 fa fd ["many", "some"] (spD ⟨K, P, w⟩ [] [0, 0] 0 (fnF [] N_choose.length S_choose)) := by
    refine fn_ok (lv := 0) (N := N_choose) (κ' := [0, 0, 0, 0]) (κp := [0, 0]) (κl := [0, 0]) (Φ := []) (s := S_choose) F sc_choose rfl rfl (zero_out (by decide)) (fun cdv A outer s0 H E hr => ?_)
    have hu := hr.units
    have nd := sc_choose.nd
    exact vss_cons (κ1 := [0, 0, 0, 0]) (s := ifS (orF (tstF (opF ltD [odS [0, 0, 0, 0] 1, odE [] 0 (cF (.int 0))])) (tstF (opF gtD [odS [0, 0, 0, 0] 1, odS [0, 0, 0, 0] 0]))) (seqS (retS (cF (.int 0))) (nilS)) (nilS))   (vs_if (T := []) (t := orF (tstF (opF ltD [odS [0, 0, 0, 0] 1, odE [] 0 (cF (.int 0))])) (tstF (opF gtD [odS [0, 0, 0, 0] 1, odS [0, 0, 0, 0] 0]))) ((vw_or (vt_cmp op_lt (O_lt ) (xo 1) (vo_e (T := []) (k := 0) (f := cF (.int 0)) (ve_int (k := 0))) (by decide)) (vw_or1 (vt_cmp op_gt (O_gt ) (xo 1) (xo 0) (by decide)))).pt)  (vss_cons (κ1 := [0, 0, 0, 0]) (s := retS (cF (.int 0)))   (vs_ret (T := []) (f := cF (.int 0)) (ve_int (k := 0)))   (vss_nil))  (vss_nil))   (vss_cons (κ1 := [0, 0, 0, 0]) (s := setS 2 (cF (.int 1)))   (vs_set (i := 2) (T := []) (j := 0) (f := cF (.int 1)) (by decide) (by decide) nd rfl (by first | exact Or.inl rfl | exact Or.inr rfl) (ve_int (k := 0)))   (vss_cons (κ1 := [0, 0, 0, 0]) (s := forS (rng1 [odS [0, 0, 0, 0] 1]) (tgN 3) (seqS (setS 2 (opF fdivD [odE [] 0 (opF mulD [odS [0, 0, 0, 0] 2, odE [] 0 (opF subD [odS [0, 0, 0, 0] 0, odS [0, 0, 0, 0] 3])]), odE [] 1 (opF addD [odS [0, 0, 0, 0] 3, odE [] 0 (cF (.int 1))])])) (nilS)))   (vs_for (T := []) (f := rng1 [odS [0, 0, 0, 0] 1]) (m := tgN 3) PassesOwn.never rfl (vi_rng1 (by rfl) (by exact bn "range" (by decide)) (va_cons (xo 1) (va_nil) (by decide))) (vg_name (i := 3) (κ' := [0, 0, 0, 0]) (by decide) (by decide) rfl nd rfl (by first | exact Or.inl rfl | exact Or.inr rfl))  (vss_cons (κ1 := [0, 0, 0, 0]) (s := setS 2 (opF fdivD [odE [] 0 (opF mulD [odS [0, 0, 0, 0] 2, odE [] 0 (opF subD [odS [0, 0, 0, 0] 0, odS [0, 0, 0, 0] 3])]), odE [] 1 (opF addD [odS [0, 0, 0, 0] 3, odE [] 0 (cF (.int 1))])]))   (vs_set (i := 2) (T := []) (j := 0) (f := opF fdivD [odE [] 0 (opF mulD [odS [0, 0, 0, 0] 2, odE [] 0 (opF subD [odS [0, 0, 0, 0] 0, odS [0, 0, 0, 0] 3])]), odE [] 1 (opF addD [odS [0, 0, 0, 0] 3, odE [] 0 (cF (.int 1))])]) (by decide) (by decide) nd rfl (by first | exact Or.inl rfl | exact Or.inr rfl) (ve_bin op_fdivA (O_fdiv (k := 0)) (vo_e (T := []) (k := 0) (f := opF mulD [odS [0, 0, 0, 0] 2, odE [] 0 (opF subD [odS [0, 0, 0, 0] 0, odS [0, 0, 0, 0] 3])]) (ve_bin op_mulA (O_mul (k := 0)) (xo 2) (vo_e (T := []) (k := 0) (f := opF subD [odS [0, 0, 0, 0] 0, odS [0, 0, 0, 0] 3]) (ve_bin op_sub (O_sub (k := 0)) (xo 0) (xo 3) (by decide))) (by decide))) (vo_e (T := []) (k := 1) (f := opF addD [odS [0, 0, 0, 0] 3, odE [] 0 (cF (.int 1))]) (ve_bin op_addA (O_add (by decide) (by decide)) (xo 3) (vo_e (T := []) (k := 0) (f := cF (.int 1)) (ve_int (k := 0))) (by decide))) (by decide)))   (vss_nil)))   (vss_cons (κ1 := [0, 0, 0, 0]) (s := retS (rd 2))   (vs_ret (T := []) (f := rd 2) (xv 2))   (vss_nil))))
  exact ⟨fa, fd, _, h, hm, F.kp, hb⟩
abbrev s_is_swapped : Stmt := topS 13
abbrev N_is_swapped : List Str := ["rows"]
theorem sc_is_swapped : FnScope N_is_swapped ["rows"] (defScope s_is_swapped) := ⟨rfl, rfl, rfl, by decide +kernel, rfl, by decide +kernel, by decide +kernel⟩
def S_is_swapped : SemS := seqS (retS (andV (opF eqD [odE [] 0 (opF lenD [odS [0] 0]), odE [] 0 (opF lenD [odE [] 0 (opF ixD [odS [0] 0, odE [] 0 (cF (.int 0))])])]) (opF eqD [odE [] 0 (callF [odE [] 0 (rd 0)] F_swapped), odS [0] 0]))) (nilS)
def F_is_swapped : Sem0 := fnF [] N_is_swapped.length S_is_swapped
theorem ok_is_swapped {P : Program} {w : World} {K : PySem.W.Frag} {mg : Str → Option Value} {base : Heap} {fa : Addr} {fd : FuncData} (F : Fun K "is_swapped" "is_swapped" s_is_swapped fa fd) (hm : mg "is_swapped" = some (.ref fa)) (hb : Binds K fd ["rows"] []) (bn : ∀ x, x ∈ bnames → mg x = none) (C_swapped : CalD P w K mg base 1 "swapped" (spD ⟨K, P, w⟩ [] [0] 0 F_swapped)) : CalD P w K mg base 2 "is_swapped" (spD ⟨K, P, w⟩ [] [0] 0 F_is_swapped) := by
  have h : FnOk P w K mg base CX0 2 fa fd ["rows"] (spD ⟨K, P, w⟩ [] [0] 0 (fnF [] N_is_swapped.length S_is_swapped)) := by
    refine fn_ok (lv := 1) (N := N_is_swapped) (κ' := [0]) (κp := [0]) (κl := []) (Φ := []) (s := S_is_swapped) F sc_is_swapped rfl rfl (zero_out (by decide)) (fun cdv A outer s0 H E hr => ?_)
    have hu := hr.units
    have nd := sc_is_swapped.nd
    exact vss_cons (κ1 := [0]) (s := retS (andV (opF eqD [odE [] 0 (opF lenD [odS [0] 0]), odE [] 0 (opF lenD [odE [] 0 (opF ixD [odS [0] 0, odE [] 0 (cF (.int 0))])])]) (opF eqD [odE [] 0 (callF [odE [] 0 (rd 0)] F_swapped), odS [0] 0])))   (vs_ret (T := []) (f := andV (opF eqD [odE [] 0 (opF lenD [odS [0] 0]), odE [] 0 (opF lenD [odE [] 0 (opF ixD [odS [0] 0, odE [] 0 (cF (.int 0))])])]) (opF eqD [odE [] 0 (callF [odE [] 0 (rd 0)] F_swapped), odS [0] 0])) (ve_and (k := 0) (ve_cmp (op_eqA hu) (O_eq (k := 0)) (vo_e (T := []) (k := 0) (f := opF lenD [odS [0] 0]) (ve_callB call_len (O_len (k := 0)) (by rfl) (by exact bn "len" (by decide)) vb_len (va_cons (xo 0) (va_nil) (by decide)))) (vo_e (T := []) (k := 0) (f := opF lenD [odE [] 0 (opF ixD [odS [0] 0, odE [] 0 (cF (.int 0))])]) (ve_callB call_len (O_len (k := 0)) (by rfl) (by exact bn "len" (by decide)) vb_len (va_cons (vo_e (T := []) (k := 0) (f := opF ixD [odS [0] 0, odE [] 0 (cF (.int 0))]) (ve_ix ix_seq (O_ix (by decide)) (xo 0) (vo_e (T := []) (k := 0) (f := cF (.int 0)) (ve_int (k := 0))) (by decide))) (va_nil) (by decide)))) (by decide)) (ve_one (ve_cmp (op_eqA hu) (O_eq (k := 0)) (vo_e (T := []) (k := 0) (f := callF [odE [] 0 (rd 0)] F_swapped) (ve_fn (k := 0) (fn := F_swapped) (C_swapped.mono (by decide)) hr (va_cons (vo_e (T := []) (k := 0) (f := rd 0) (xv 0)) (va_nil) (by decide)))) (xo 0) (by decide)))))   (vss_nil)
  exact ⟨fa, fd, _, h, hm, F.kp, hb⟩
abbrev s_is_rolled : Stmt := topS 14
abbrev N_is_rolled : List Str := ["rows", "c"]
theorem sc_is_rolled : FnScope N_is_rolled ["rows", "c"] (defScope s_is_rolled) := ⟨rfl, rfl, rfl, by decide +kernel, rfl, by decide +kernel, by decide +kernel⟩
def S_is_rolled : SemS := seqS (retS (andV (opF eqD [odE [] 0 (opF lenD [odS [0, 0] 0]), odS [0, 0] 1]) (andV (opF eqD [odE [] 0 (opF lenD [odE [] 0 (opF ixD [odS [0, 0] 0, odE [] 0 (cF (.int 0))])]), odS [0, 0] 1]) (opF eqD [odE [] 0 (callF [odE [] 0 (rd 0), odE [] 0 (rd 1)] F_rolled), odS [0, 0] 0])))) (nilS)
def F_is_rolled : Sem0 := fnF [] N_is_rolled.length S_is_rolled
theorem ok_is_rolled {P : Program} {w : World} {K : PySem.W.Frag} {mg : Str → Option Value} {base : Heap} {fa : Addr} {fd : FuncData} (F : Fun K "is_rolled" "is_rolled" s_is_rolled fa fd) (hm : mg "is_rolled" = some (.ref fa)) (hb : Binds K fd ["rows", "c"] []) (bn : ∀ x, x ∈ bnames → mg x = none) (C_rolled : CalD P w K mg base 2 "rolled" (spD ⟨K, P, w⟩ [] [0, 0] 0 F_rolled)) : CalD P w K mg base 3 "is_rolled" (spD ⟨K, P, w⟩ [] [0, 0] 0 F_is_rolled) := by
  have h : FnOk P w K mg base CX0 3 fa fd ["rows", "c"] (spD ⟨K, P, w⟩ [] [0, 0] 0 (fnF [] N_is_rolled.length S_is_rolled)) := by
    refine fn_ok (lv := 2) (N := N_is_rolled) (κ' := [0, 0]) (κp := [0, 0]) (κl := []) (Φ := []) (s := S_is_rolled) F sc_is_rolled rfl rfl (zero_out (by decide)) (fun cdv A outer s0 H E hr => ?_)
    have hu := hr.units
    have nd := sc_is_rolled.nd
    exact vss_cons (κ1 := [0, 0]) (s := retS (andV (opF eqD [odE [] 0 (opF lenD [odS [0, 0] 0]), odS [0, 0] 1]) (andV (opF eqD [odE [] 0 (opF lenD [odE [] 0 (opF ixD [odS [0, 0] 0, odE [] 0 (cF (.int 0))])]), odS [0, 0] 1]) (opF eqD [odE [] 0 (callF [odE [] 0 (rd 0), odE [] 0 (rd 1)] F_rolled), odS [0, 0] 0]))))   (vs_ret (T := []) (f := andV (opF eqD [odE [] 0 (opF lenD [odS [0, 0] 0]), odS [0, 0] 1]) (andV (opF eqD [odE [] 0 (opF lenD [odE [] 0 (opF ixD [odS [0, 0] 0, odE [] 0 (cF (.int 0))])]), odS [0, 0] 1]) (opF eqD [odE [] 0 (callF [odE [] 0 (rd 0), odE [] 0 (rd 1)] F_rolled), odS [0, 0] 0]))) (ve_and (k := 0) (ve_cmp (op_eqA hu) (O_eq (k := 0)) (vo_e (T := []) (k := 0) (f := opF lenD [odS [0, 0] 0]) (ve_callB call_len (O_len (k := 0)) (by rfl) (by exact bn "len" (by decide)) vb_len (va_cons (xo 0) (va_nil) (by decide)))) (xo 1) (by decide)) (ve_and (k := 0) (ve_cmp (op_eqA hu) (O_eq (k := 0)) (vo_e (T := []) (k := 0) (f := opF lenD [odE [] 0 (opF ixD [odS [0, 0] 0, odE [] 0 (cF (.int 0))])]) (ve_callB call_len (O_len (k := 0)) (by rfl) (by exact bn "len" (by decide)) vb_len (va_cons (vo_e (T := []) (k := 0) (f := opF ixD [odS [0, 0] 0, odE [] 0 (cF (.int 0))]) (ve_ix ix_seq (O_ix (by decide)) (xo 0) (vo_e (T := []) (k := 0) (f := cF (.int 0)) (ve_int (k := 0))) (by decide))) (va_nil) (by decide)))) (xo 1) (by decide)) (ve_one (ve_cmp (op_eqA hu) (O_eq (k := 0)) (vo_e (T := []) (k := 0) (f := callF [odE [] 0 (rd 0), odE [] 0 (rd 1)] F_rolled) (ve_fn (k := 0) (fn := F_rolled) (C_rolled.mono (by decide)) hr (va_cons (vo_e (T := []) (k := 0) (f := rd 0) (xv 0)) (va_cons (vo_e (T := []) (k := 0) (f := rd 1) (xv 1)) (va_nil) (by decide)) (by decide)))) (xo 0) (by decide))))))   (vss_nil)
  exact ⟨fa, fd, _, h, hm, F.kp, hb⟩
abbrev s_is_whole : Stmt := topS 15
abbrev N_is_whole : List Str := ["rows", "c"]
theorem sc_is_whole : FnScope N_is_whole ["rows", "c"] (defScope s_is_whole) := ⟨rfl, rfl, rfl, by decide +kernel, rfl, by decide +kernel, by decide +kernel⟩
def S_is_whole : SemS := seqS (retS (andV (callF [odE [] 0 (rd 0), odE [] 0 (rd 1)] F_is_rolled) (callF [odE [] 0 (rd 0)] F_is_swapped))) (nilS)
def F_is_whole : Sem0 := fnF [] N_is_whole.length S_is_whole
theorem ok_is_whole {P : Program} {w : World} {K : PySem.W.Frag} {mg : Str → Option Value} {base : Heap} {fa : Addr} {fd : FuncData} (F : Fun K "is_whole" "is_whole" s_is_whole fa fd) (hm : mg "is_whole" = some (.ref fa)) (hb : Binds K fd ["rows", "c"] []) (C_is_rolled : CalD P w K mg base 3 "is_rolled" (spD ⟨K, P, w⟩ [] [0, 0] 0 F_is_rolled)) (C_is_swapped : CalD P w K mg base 2 "is_swapped" (spD ⟨K, P, w⟩ [] [0] 0 F_is_swapped)) : CalD P w K mg base 4 "is_whole" (spD ⟨K, P, w⟩ [] [0, 0] 0 F_is_whole) := by
  have h : FnOk P w K mg base CX0 4 fa fd ["rows", "c"] (spD ⟨K, P, w⟩ [] [0, 0] 0 (fnF [] N_is_whole.length S_is_whole)) := by
    refine fn_ok (lv := 3) (N := N_is_whole) (κ' := [0, 0]) (κp := [0, 0]) (κl := []) (Φ := []) (s := S_is_whole) F sc_is_whole rfl rfl (zero_out (by decide)) (fun cdv A outer s0 H E hr => ?_)
    have hu := hr.units
    have nd := sc_is_whole.nd
    exact vss_cons (κ1 := [0, 0]) (s := retS (andV (callF [odE [] 0 (rd 0), odE [] 0 (rd 1)] F_is_rolled) (callF [odE [] 0 (rd 0)] F_is_swapped)))   (vs_ret (T := []) (f := andV (callF [odE [] 0 (rd 0), odE [] 0 (rd 1)] F_is_rolled) (callF [odE [] 0 (rd 0)] F_is_swapped)) (ve_and (k := 0) (ve_fn (k := 0) (fn := F_is_rolled) (C_is_rolled.mono (by decide)) hr (va_cons (vo_e (T := []) (k := 0) (f := rd 0) (xv 0)) (va_cons (vo_e (T := []) (k := 0) (f := rd 1) (xv 1)) (va_nil) (by decide)) (by decide))) (ve_one (ve_fn (k := 0) (fn := F_is_swapped) (C_is_swapped.mono (by decide)) hr (va_cons (vo_e (T := []) (k := 0) (f := rd 0) (xv 0)) (va_nil) (by decide))))))   (vss_nil)
  exact ⟨fa, fd, _, h, hm, F.kp, hb⟩
abbrev s_is_mirrored : Stmt := topS 16
abbrev N_is_mirrored : List Str := ["rows", "c"]
theorem sc_is_mirrored : FnScope N_is_mirrored ["rows", "c"] (defScope s_is_mirrored) := ⟨rfl, rfl, rfl, by decide +kernel, rfl, by decide +kernel, by decide +kernel⟩
def S_is_mirrored : SemS := seqS (retS (opF eqD [odE [] 0 (callF [odE [] 0 (rd 0), odE [] 0 (rd 1)] F_filled_up), odS [0, 0] 0])) (nilS)
def F_is_mirrored : Sem0 := fnF [] N_is_mirrored.length S_is_mirrored
theorem ok_is_mirrored {P : Program} {w : World} {K : PySem.W.Frag} {mg : Str → Option Value} {base : Heap} {fa : Addr} {fd : FuncData} (F : Fun K "is_mirrored" "is_mirrored" s_is_mirrored fa fd) (hm : mg "is_mirrored" = some (.ref fa)) (hb : Binds K fd ["rows", "c"] []) (C_filled_up : CalD P w K mg base 1 "filled_up" (spD ⟨K, P, w⟩ [] [0, 0] 0 F_filled_up)) : CalD P w K mg base 2 "is_mirrored" (spD ⟨K, P, w⟩ [] [0, 0] 0 F_is_mirrored) := by
  have h : FnOk P w K mg base CX0 2 fa fd ["rows", "c"] (spD ⟨K, P, w⟩ [] [0, 0] 0 (fnF [] N_is_mirrored.length S_is_mirrored)) := by
    refine fn_ok (lv := 1) (N := N_is_mirrored) (κ' := [0, 0]) (κp := [0, 0]) (κl := []) (Φ := []) (s := S_is_mirrored) F sc_is_mirrored rfl rfl (zero_out (by decide)) (fun cdv A outer s0 H E hr => ?_)
    have hu := hr.units
    have nd := sc_is_mirrored.nd
    exact vss_cons (κ1 := [0, 0]) (s := retS (opF eqD [odE [] 0 (callF [odE [] 0 (rd 0), odE [] 0 (rd 1)] F_filled_up), odS [0, 0] 0]))   (vs_ret (T := []) (f := opF eqD [odE [] 0 (callF [odE [] 0 (rd 0), odE [] 0 (rd 1)] F_filled_up), odS [0, 0] 0]) (ve_cmp (op_eqA hu) (O_eq (k := 0)) (vo_e (T := []) (k := 0) (f := callF [odE [] 0 (rd 0), odE [] 0 (rd 1)] F_filled_up) (ve_fn (k := 0) (fn := F_filled_up) (C_filled_up.mono (by decide)) hr (va_cons (vo_e (T := []) (k := 0) (f := rd 0) (xv 0)) (va_cons (vo_e (T := []) (k := 0) (f := rd 1) (xv 1)) (va_nil) (by decide)) (by decide)))) (xo 0) (by decide)))   (vss_nil)
  exact ⟨fa, fd, _, h, hm, F.kp, hb⟩
abbrev s_is_crossed : Stmt := topS 17
abbrev N_is_crossed : List Str := ["rows", "c"]
theorem sc_is_crossed : FnScope N_is_crossed ["rows", "c"] (defScope s_is_crossed) := ⟨rfl, rfl, rfl, by decide +kernel, rfl, by decide +kernel, by decide +kernel⟩
def S_is_crossed : SemS := seqS (retS (andV (opF eqD [odE [] 0 (opF lenD [odS [0, 0] 0]), odE [] 0 (opF lenD [odE [] 0 (opF ixD [odS [0, 0] 0, odE [] 0 (cF (.int 0))])])]) (opF eqD [odE [] 0 (callF [odE [] 0 (callF [odE [] 0 (rd 0), odE [] 0 (rd 1)] F_filled_up)] F_swapped), odS [0, 0] 0]))) (nilS)
def F_is_crossed : Sem0 := fnF [] N_is_crossed.length S_is_crossed
theorem ok_is_crossed {P : Program} {w : World} {K : PySem.W.Frag} {mg : Str → Option Value} {base : Heap} {fa : Addr} {fd : FuncData} (F : Fun K "is_crossed" "is_crossed" s_is_crossed fa fd) (hm : mg "is_crossed" = some (.ref fa)) (hb : Binds K fd ["rows", "c"] []) (bn : ∀ x, x ∈ bnames → mg x = none) (C_filled_up : CalD P w K mg base 1 "filled_up" (spD ⟨K, P, w⟩ [] [0, 0] 0 F_filled_up)) (C_swapped : CalD P w K mg base 1 "swapped" (spD ⟨K, P, w⟩ [] [0] 0 F_swapped)) : CalD P w K mg base 2 "is_crossed" (spD ⟨K, P, w⟩ [] [0, 0] 0 F_is_crossed) := by
  have h : FnOk P w K mg base CX0 2 fa fd ["rows", "c"] (spD ⟨K, P, w⟩ [] [0, 0] 0 (fnF [] N_is_crossed.length S_is_crossed)) := by
    refine fn_ok (lv := 1) (N := N_is_crossed) (κ' := [0, 0]) (κp := [0, 0]) (κl := []) (Φ := []) (s := S_is_crossed) F sc_is_crossed rfl rfl (zero_out (by decide)) (fun cdv A outer s0 H E hr => ?_)
    have hu := hr.units
    have nd := sc_is_crossed.nd
    exact vss_cons (κ1 := [0, 0]) (s := retS (andV (opF eqD [odE [] 0 (opF lenD [odS [0, 0] 0]), odE [] 0 (opF lenD [odE [] 0 (opF ixD [odS [0, 0] 0, odE [] 0 (cF (.int 0))])])]) (opF eqD [odE [] 0 (callF [odE [] 0 (callF [odE [] 0 (rd 0), odE [] 0 (rd 1)] F_filled_up)] F_swapped), odS [0, 0] 0])))   (vs_ret (T := []) (f := andV (opF eqD [odE [] 0 (opF lenD [odS [0, 0] 0]), odE [] 0 (opF lenD [odE [] 0 (opF ixD [odS [0, 0] 0, odE [] 0 (cF (.int 0))])])]) (opF eqD [odE [] 0 (callF [odE [] 0 (callF [odE [] 0 (rd 0), odE [] 0 (rd 1)] F_filled_up)] F_swapped), odS [0, 0] 0])) (ve_and (k := 0) (ve_cmp (op_eqA hu) (O_eq (k := 0)) (vo_e (T := []) (k := 0) (f := opF lenD [odS [0, 0] 0]) (ve_callB call_len (O_len (k := 0)) (by rfl) (by exact bn "len" (by decide)) vb_len (va_cons (xo 0) (va_nil) (by decide)))) (vo_e (T := []) (k := 0) (f := opF lenD [odE [] 0 (opF ixD [odS [0, 0] 0, odE [] 0 (cF (.int 0))])]) (ve_callB call_len (O_len (k := 0)) (by rfl) (by exact bn "len" (by decide)) vb_len (va_cons (vo_e (T := []) (k := 0) (f := opF ixD [odS [0, 0] 0, odE [] 0 (cF (.int 0))]) (ve_ix ix_seq (O_ix (by decide)) (xo 0) (vo_e (T := []) (k := 0) (f := cF (.int 0)) (ve_int (k := 0))) (by decide))) (va_nil) (by decide)))) (by decide)) (ve_one (ve_cmp (op_eqA hu) (O_eq (k := 0)) (vo_e (T := []) (k := 0) (f := callF [odE [] 0 (callF [odE [] 0 (rd 0), odE [] 0 (rd 1)] F_filled_up)] F_swapped) (ve_fn (k := 0) (fn := F_swapped) (C_swapped.mono (by decide)) hr (va_cons (vo_e (T := []) (k := 0) (f := callF [odE [] 0 (rd 0), odE [] 0 (rd 1)] F_filled_up) (ve_fn (k := 0) (fn := F_filled_up) (C_filled_up.mono (by decide)) hr (va_cons (vo_e (T := []) (k := 0) (f := rd 0) (xv 0)) (va_cons (vo_e (T := []) (k := 0) (f := rd 1) (xv 1)) (va_nil) (by decide)) (by decide)))) (va_nil) (by decide)))) (xo 0) (by decide)))))   (vss_nil)
  exact ⟨fa, fd, _, h, hm, F.kp, hb⟩
abbrev s_count_swapped : Stmt := topS 18
abbrev N_count_swapped : List Str := ["a", "c", "above", "below", "x", "y"]
theorem sc_count_swapped : FnScope N_count_swapped ["a", "c"] (defScope s_count_swapped) := ⟨rfl, rfl, rfl, by decide +kernel, rfl, by decide +kernel, by decide +kernel⟩
def S_count_swapped : SemS := seqS (par2 2 3 (cF (.int 1)) (cF (.int 1))) (seqS (forS (rng2 [odE [] 0 (cF (.int 1)), odE [] 1 (opF addD [odS [0, 0, 0, 0, 0, 0] 0, odE [] 0 (cF (.int 1))])]) (tgN 4) (seqS (setS 2 (opF mulD [odS [0, 0, 0, 0, 0, 0] 2, odE [] 0 (opF subD [odE [] 1 (opF addD [odE [] 0 (opF mulD [odE [] 0 (cF (.int 2)), odS [0, 0, 0, 0, 0, 0] 4]), odS [0, 0, 0, 0, 0, 0] 1]), odE [] 0 (cF (.int 1))])])) (seqS (setS 3 (opF mulD [odS [0, 0, 0, 0, 0, 0] 3, odE [] 0 (opF subD [odE [] 0 (opF mulD [odE [] 0 (cF (.int 2)), odS [0, 0, 0, 0, 0, 0] 4]), odE [] 0 (cF (.int 1))])])) (seqS (forS (rng2 [odE [] 1 (opF addD [odS [0, 0, 0, 0, 0, 0] 4, odE [] 0 (cF (.int 1))]), odE [] 1 (opF addD [odS [0, 0, 0, 0, 0, 0] 0, odE [] 0 (cF (.int 1))])]) (tgN 5) (seqS (setS 2 (opF mulD [odS [0, 0, 0, 0, 0, 0] 2, odE [] 0 (opF subD [odE [] 1 (opF addD [odE [] 1 (opF addD [odS [0, 0, 0, 0, 0, 0] 4, odS [0, 0, 0, 0, 0, 0] 5]), odS [0, 0, 0, 0, 0, 0] 1]), odE [] 0 (cF (.int 1))])])) (seqS (setS 3 (opF mulD [odS [0, 0, 0, 0, 0, 0] 3, odE [] 0 (opF subD [odE [] 1 (opF addD [odS [0, 0, 0, 0, 0, 0] 4, odS [0, 0, 0, 0, 0, 0] 5]), odE [] 0 (cF (.int 1))])])) (nilS)))) (nilS))))) (seqS (retS (opF fdivD [odS [0, 0, 0, 0, 0, 0] 2, odS [0, 0, 0, 0, 0, 0] 3])) (nilS)))
def F_count_swapped : Sem0 := fnF [] N_count_swapped.length S_count_swapped
theorem ok_count_swapped {P : Program} {w : World} {K : PySem.W.Frag} {mg : Str → Option Value} {base : Heap} {fa : Addr} {fd : FuncData} (F : Fun K "count_swapped" "count_swapped" s_count_swapped fa fd) (hm : mg "count_swapped" = some (.ref fa)) (hb : Binds K fd ["a", "c"] []) (bn : ∀ x, x ∈ bnames → mg x = none)  : CalD P w K mg base 1 "count_swapped" (spD ⟨K, P, w⟩ [] [0, 0] 0 F_count_swapped) := by
  have h : FnOk P w K mg base CX0 1 fa fd ["a", "c"] (spD ⟨K, P, w⟩ [] [0, 0] 0 (fnF [] N_count_swapped.length S_count_swapped)) := by
    refine fn_ok (lv := 0) (N := N_count_swapped) (κ' := [0, 0, 0, 0, 0, 0]) (κp := [0, 0]) (κl := [0, 0, 0, 0]) (Φ := []) (s := S_count_swapped) F sc_count_swapped rfl rfl (zero_out (by decide)) (fun cdv A outer s0 H E hr => ?_)
    have hu := hr.units
    have nd := sc_count_swapped.nd
    exact vss_cons (κ1 := [0, 0, 0, 0, 0, 0]) (s := par2 2 3 (cF (.int 1)) (cF (.int 1)))   (vs_tup2 (i := 2) (j := 3) (k1 := 0) (f := cF (.int 1)) (k2 := 0) (g := cF (.int 1)) (T := []) (U := []) (by decide) (by decide) (by decide) (by decide) rfl nd rfl rfl (by first | exact Or.inl rfl | exact Or.inr rfl) (by first | exact Or.inl rfl | exact Or.inr rfl) (ve_int (k := 0)) (ve_int (k := 0)))   (vss_cons (κ1 := [0, 0, 0, 0, 0, 0]) (s := forS (rng2 [odE [] 0 (cF (.int 1)), odE [] 1 (opF addD [odS [0, 0, 0, 0, 0, 0] 0, odE [] 0 (cF (.int 1))])]) (tgN 4) (seqS (setS 2 (opF mulD [odS [0, 0, 0, 0, 0, 0] 2, odE [] 0 (opF subD [odE [] 1 (opF addD [odE [] 0 (opF mulD [odE [] 0 (cF (.int 2)), odS [0, 0, 0, 0, 0, 0] 4]), odS [0, 0, 0, 0, 0, 0] 1]), odE [] 0 (cF (.int 1))])])) (seqS (setS 3 (opF mulD [odS [0, 0, 0, 0, 0, 0] 3, odE [] 0 (opF subD [odE [] 0 (opF mulD [odE [] 0 (cF (.int 2)), odS [0, 0, 0, 0, 0, 0] 4]), odE [] 0 (cF (.int 1))])])) (seqS (forS (rng2 [odE [] 1 (opF addD [odS [0, 0, 0, 0, 0, 0] 4, odE [] 0 (cF (.int 1))]), odE [] 1 (opF addD [odS [0, 0, 0, 0, 0, 0] 0, odE [] 0 (cF (.int 1))])]) (tgN 5) (seqS (setS 2 (opF mulD [odS [0, 0, 0, 0, 0, 0] 2, odE [] 0 (opF subD [odE [] 1 (opF addD [odE [] 1 (opF addD [odS [0, 0, 0, 0, 0, 0] 4, odS [0, 0, 0, 0, 0, 0] 5]), odS [0, 0, 0, 0, 0, 0] 1]), odE [] 0 (cF (.int 1))])])) (seqS (setS 3 (opF mulD [odS [0, 0, 0, 0, 0, 0] 3, odE [] 0 (opF subD [odE [] 1 (opF addD [odS [0, 0, 0, 0, 0, 0] 4, odS [0, 0, 0, 0, 0, 0] 5]), odE [] 0 (cF (.int 1))])])) (nilS)))) (nilS)))))   (vs_for (T := []) (f := rng2 [odE [] 0 (cF (.int 1)), odE [] 1 (opF addD [odS [0, 0, 0, 0, 0, 0] 0, odE [] 0 (cF (.int 1))])]) (m := tgN 4) PassesOwn.never rfl (vi_rng2 (by rfl) (by exact bn "range" (by decide)) (va_cons (vo_e (T := []) (k := 0) (f := cF (.int 1)) (ve_int (k := 0))) (va_cons (vo_e (T := []) (k := 1) (f := opF addD [odS [0, 0, 0, 0, 0, 0] 0, odE [] 0 (cF (.int 1))]) (ve_bin op_addA (O_add (by decide) (by decide)) (xo 0) (vo_e (T := []) (k := 0) (f := cF (.int 1)) (ve_int (k := 0))) (by decide))) (va_nil) (by decide)) (by decide))) (vg_name (i := 4) (κ' := [0, 0, 0, 0, 0, 0]) (by decide) (by decide) rfl nd rfl (by first | exact Or.inl rfl | exact Or.inr rfl))  (vss_cons (κ1 := [0, 0, 0, 0, 0, 0]) (s := setS 2 (opF mulD [odS [0, 0, 0, 0, 0, 0] 2, odE [] 0 (opF subD [odE [] 1 (opF addD [odE [] 0 (opF mulD [odE [] 0 (cF (.int 2)), odS [0, 0, 0, 0, 0, 0] 4]), odS [0, 0, 0, 0, 0, 0] 1]), odE [] 0 (cF (.int 1))])]))   (vs_set (i := 2) (T := []) (j := 0) (f := opF mulD [odS [0, 0, 0, 0, 0, 0] 2, odE [] 0 (opF subD [odE [] 1 (opF addD [odE [] 0 (opF mulD [odE [] 0 (cF (.int 2)), odS [0, 0, 0, 0, 0, 0] 4]), odS [0, 0, 0, 0, 0, 0] 1]), odE [] 0 (cF (.int 1))])]) (by decide) (by decide) nd rfl (by first | exact Or.inl rfl | exact Or.inr rfl) (ve_bin op_mulA (O_mul (k := 0)) (xo 2) (vo_e (T := []) (k := 0) (f := opF subD [odE [] 1 (opF addD [odE [] 0 (opF mulD [odE [] 0 (cF (.int 2)), odS [0, 0, 0, 0, 0, 0] 4]), odS [0, 0, 0, 0, 0, 0] 1]), odE [] 0 (cF (.int 1))]) (ve_bin op_sub (O_sub (k := 0)) (vo_e (T := []) (k := 1) (f := opF addD [odE [] 0 (opF mulD [odE [] 0 (cF (.int 2)), odS [0, 0, 0, 0, 0, 0] 4]), odS [0, 0, 0, 0, 0, 0] 1]) (ve_bin op_addA (O_add (by decide) (by decide)) (vo_e (T := []) (k := 0) (f := opF mulD [odE [] 0 (cF (.int 2)), odS [0, 0, 0, 0, 0, 0] 4]) (ve_bin op_mulA (O_mul (k := 0)) (vo_e (T := []) (k := 0) (f := cF (.int 2)) (ve_int (k := 0))) (xo 4) (by decide))) (xo 1) (by decide))) (vo_e (T := []) (k := 0) (f := cF (.int 1)) (ve_int (k := 0))) (by decide))) (by decide)))   (vss_cons (κ1 := [0, 0, 0, 0, 0, 0]) (s := setS 3 (opF mulD [odS [0, 0, 0, 0, 0, 0] 3, odE [] 0 (opF subD [odE [] 0 (opF mulD [odE [] 0 (cF (.int 2)), odS [0, 0, 0, 0, 0, 0] 4]), odE [] 0 (cF (.int 1))])]))   (vs_set (i := 3) (T := []) (j := 0) (f := opF mulD [odS [0, 0, 0, 0, 0, 0] 3, odE [] 0 (opF subD [odE [] 0 (opF mulD [odE [] 0 (cF (.int 2)), odS [0, 0, 0, 0, 0, 0] 4]), odE [] 0 (cF (.int 1))])]) (by decide) (by decide) nd rfl (by first | exact Or.inl rfl | exact Or.inr rfl) (ve_bin op_mulA (O_mul (k := 0)) (xo 3) (vo_e (T := []) (k := 0) (f := opF subD [odE [] 0 (opF mulD [odE [] 0 (cF (.int 2)), odS [0, 0, 0, 0, 0, 0] 4]), odE [] 0 (cF (.int 1))]) (ve_bin op_sub (O_sub (k := 0)) (vo_e (T := []) (k := 0) (f := opF mulD [odE [] 0 (cF (.int 2)), odS [0, 0, 0, 0, 0, 0] 4]) (ve_bin op_mulA (O_mul (k := 0)) (vo_e (T := []) (k := 0) (f := cF (.int 2)) (ve_int (k := 0))) (xo 4) (by decide))) (vo_e (T := []) (k := 0) (f := cF (.int 1)) (ve_int (k := 0))) (by decide))) (by decide)))   (vss_cons (κ1 := [0, 0, 0, 0, 0, 0]) (s := forS (rng2 [odE [] 1 (opF addD [odS [0, 0, 0, 0, 0, 0] 4, odE [] 0 (cF (.int 1))]), odE [] 1 (opF addD [odS [0, 0, 0, 0, 0, 0] 0, odE [] 0 (cF (.int 1))])]) (tgN 5) (seqS (setS 2 (opF mulD [odS [0, 0, 0, 0, 0, 0] 2, odE [] 0 (opF subD [odE [] 1 (opF addD [odE [] 1 (opF addD [odS [0, 0, 0, 0, 0, 0] 4, odS [0, 0, 0, 0, 0, 0] 5]), odS [0, 0, 0, 0, 0, 0] 1]), odE [] 0 (cF (.int 1))])])) (seqS (setS 3 (opF mulD [odS [0, 0, 0, 0, 0, 0] 3, odE [] 0 (opF subD [odE [] 1 (opF addD [odS [0, 0, 0, 0, 0, 0] 4, odS [0, 0, 0, 0, 0, 0] 5]), odE [] 0 (cF (.int 1))])])) (nilS))))   (vs_for (T := []) (f := rng2 [odE [] 1 (opF addD [odS [0, 0, 0, 0, 0, 0] 4, odE [] 0 (cF (.int 1))]), odE [] 1 (opF addD [odS [0, 0, 0, 0, 0, 0] 0, odE [] 0 (cF (.int 1))])]) (m := tgN 5) PassesOwn.never rfl (vi_rng2 (by rfl) (by exact bn "range" (by decide)) (va_cons (vo_e (T := []) (k := 1) (f := opF addD [odS [0, 0, 0, 0, 0, 0] 4, odE [] 0 (cF (.int 1))]) (ve_bin op_addA (O_add (by decide) (by decide)) (xo 4) (vo_e (T := []) (k := 0) (f := cF (.int 1)) (ve_int (k := 0))) (by decide))) (va_cons (vo_e (T := []) (k := 1) (f := opF addD [odS [0, 0, 0, 0, 0, 0] 0, odE [] 0 (cF (.int 1))]) (ve_bin op_addA (O_add (by decide) (by decide)) (xo 0) (vo_e (T := []) (k := 0) (f := cF (.int 1)) (ve_int (k := 0))) (by decide))) (va_nil) (by decide)) (by decide))) (vg_name (i := 5) (κ' := [0, 0, 0, 0, 0, 0]) (by decide) (by decide) rfl nd rfl (by first | exact Or.inl rfl | exact Or.inr rfl))  (vss_cons (κ1 := [0, 0, 0, 0, 0, 0]) (s := setS 2 (opF mulD [odS [0, 0, 0, 0, 0, 0] 2, odE [] 0 (opF subD [odE [] 1 (opF addD [odE [] 1 (opF addD [odS [0, 0, 0, 0, 0, 0] 4, odS [0, 0, 0, 0, 0, 0] 5]), odS [0, 0, 0, 0, 0, 0] 1]), odE [] 0 (cF (.int 1))])]))   (vs_set (i := 2) (T := []) (j := 0) (f := opF mulD [odS [0, 0, 0, 0, 0, 0] 2, odE [] 0 (opF subD [odE [] 1 (opF addD [odE [] 1 (opF addD [odS [0, 0, 0, 0, 0, 0] 4, odS [0, 0, 0, 0, 0, 0] 5]), odS [0, 0, 0, 0, 0, 0] 1]), odE [] 0 (cF (.int 1))])]) (by decide) (by decide) nd rfl (by first | exact Or.inl rfl | exact Or.inr rfl) (ve_bin op_mulA (O_mul (k := 0)) (xo 2) (vo_e (T := []) (k := 0) (f := opF subD [odE [] 1 (opF addD [odE [] 1 (opF addD [odS [0, 0, 0, 0, 0, 0] 4, odS [0, 0, 0, 0, 0, 0] 5]), odS [0, 0, 0, 0, 0, 0] 1]), odE [] 0 (cF (.int 1))]) (ve_bin op_sub (O_sub (k := 0)) (vo_e (T := []) (k := 1) (f := opF addD [odE [] 1 (opF addD [odS [0, 0, 0, 0, 0, 0] 4, odS [0, 0, 0, 0, 0, 0] 5]), odS [0, 0, 0, 0, 0, 0] 1]) (ve_bin op_addA (O_add (by decide) (by decide)) (vo_e (T := []) (k := 1) (f := opF addD [odS [0, 0, 0, 0, 0, 0] 4, odS [0, 0, 0, 0, 0, 0] 5]) (ve_bin op_addA (O_add (by decide) (by decide)) (xo 4) (xo 5) (by decide))) (xo 1) (by decide))) (vo_e (T := []) (k := 0) (f := cF (.int 1)) (ve_int (k := 0))) (by decide))) (by decide)))   (vss_cons (κ1 := [0, 0, 0, 0, 0, 0]) (s := setS 3 (opF mulD [odS [0, 0, 0, 0, 0, 0] 3, odE [] 0 (opF subD [odE [] 1 (opF addD [odS [0, 0, 0, 0, 0, 0] 4, odS [0, 0, 0, 0, 0, 0] 5]), odE [] 0 (cF (.int 1))])]))   (vs_set (i := 3) (T := []) (j := 0) (f := opF mulD [odS [0, 0, 0, 0, 0, 0] 3, odE [] 0 (opF subD [odE [] 1 (opF addD [odS [0, 0, 0, 0, 0, 0] 4, odS [0, 0, 0, 0, 0, 0] 5]), odE [] 0 (cF (.int 1))])]) (by decide) (by decide) nd rfl (by first | exact Or.inl rfl | exact Or.inr rfl) (ve_bin op_mulA (O_mul (k := 0)) (xo 3) (vo_e (T := []) (k := 0) (f := opF subD [odE [] 1 (opF addD [odS [0, 0, 0, 0, 0, 0] 4, odS [0, 0, 0, 0, 0, 0] 5]), odE [] 0 (cF (.int 1))]) (ve_bin op_sub (O_sub (k := 0)) (vo_e (T := []) (k := 1) (f := opF addD [odS [0, 0, 0, 0, 0, 0] 4, odS [0, 0, 0, 0, 0, 0] 5]) (ve_bin op_addA (O_add (by decide) (by decide)) (xo 4) (xo 5) (by decide))) (vo_e (T := []) (k := 0) (f := cF (.int 1)) (ve_int (k := 0))) (by decide))) (by decide)))   (vss_nil))))   (vss_nil)))))   (vss_cons (κ1 := [0, 0, 0, 0, 0, 0]) (s := retS (opF fdivD [odS [0, 0, 0, 0, 0, 0] 2, odS [0, 0, 0, 0, 0, 0] 3]))   (vs_ret (T := []) (f := opF fdivD [odS [0, 0, 0, 0, 0, 0] 2, odS [0, 0, 0, 0, 0, 0] 3]) (ve_bin op_fdivA (O_fdiv (k := 0)) (xo 2) (xo 3) (by decide)))   (vss_nil)))
  exact ⟨fa, fd, _, h, hm, F.kp, hb⟩
abbrev s_count_rolled : Stmt := topS 19
abbrev N_count_rolled : List Str := ["n", "above", "below", "x", "y"]
theorem sc_count_rolled : FnScope N_count_rolled ["n"] (defScope s_count_rolled) := ⟨rfl, rfl, rfl, by decide +kernel, rfl, by decide +kernel, by decide +kernel⟩
def S_count_rolled : SemS := seqS (par2 1 2 (cF (.int 1)) (cF (.int 1))) (seqS (forS (rng2 [odE [] 0 (cF (.int 1)), odE [] 1 (opF addD [odS [0, 0, 0, 0, 0] 0, odE [] 0 (cF (.int 1))])]) (tgN 3) (seqS (setS 1 (opF mulD [odS [0, 0, 0, 0, 0] 1, odE [] 0 (opF subD [odE [] 0 (opF mulD [odE [] 0 (cF (.int 3)), odS [0, 0, 0, 0, 0] 3]), odE [] 0 (cF (.int 1))])])) (seqS (setS 2 (opF mulD [odS [0, 0, 0, 0, 0] 2, odE [] 0 (opF subD [odE [] 0 (opF mulD [odE [] 0 (cF (.int 3)), odS [0, 0, 0, 0, 0] 3]), odE [] 0 (cF (.int 2))])])) (seqS (forS (rng2 [odS [0, 0, 0, 0, 0] 3, odE [] 1 (opF addD [odS [0, 0, 0, 0, 0] 0, odE [] 0 (cF (.int 1))])]) (tgN 4) (seqS (setS 1 (opF mulD [odS [0, 0, 0, 0, 0] 1, odE [] 0 (opF subD [odE [] 1 (opF addD [odE [] 1 (opF addD [odS [0, 0, 0, 0, 0] 0, odS [0, 0, 0, 0, 0] 3]), odS [0, 0, 0, 0, 0] 4]), odE [] 0 (cF (.int 1))])])) (seqS (setS 2 (opF mulD [odS [0, 0, 0, 0, 0] 2, odE [] 0 (opF subD [odE [] 1 (opF addD [odE [] 0 (opF mulD [odE [] 0 (cF (.int 2)), odS [0, 0, 0, 0, 0] 3]), odS [0, 0, 0, 0, 0] 4]), odE [] 0 (cF (.int 1))])])) (nilS)))) (nilS))))) (seqS (retS (opF fdivD [odS [0, 0, 0, 0, 0] 1, odS [0, 0, 0, 0, 0] 2])) (nilS)))
def F_count_rolled : Sem0 := fnF [] N_count_rolled.length S_count_rolled
theorem ok_count_rolled {P : Program} {w : World} {K : PySem.W.Frag} {mg : Str → Option Value} {base : Heap} {fa : Addr} {fd : FuncData} (F : Fun K "count_rolled" "count_rolled" s_count_rolled fa fd) (hm : mg "count_rolled" = some (.ref fa)) (hb : Binds K fd ["n"] []) (bn : ∀ x, x ∈ bnames → mg x = none)  : CalD P w K mg base 1 "count_rolled" (spD ⟨K, P, w⟩ [] [0] 0 F_count_rolled) := by
  have h : FnOk P w K mg base CX0 1 fa fd ["n"] (spD ⟨K, P, w⟩ [] [0] 0 (fnF [] N_count_rolled.length S_count_rolled)) := by
    refine fn_ok (lv := 0) (N := N_count_rolled) (κ' := [0, 0, 0, 0, 0]) (κp := [0]) (κl := [0, 0, 0, 0]) (Φ := []) (s := S_count_rolled) F sc_count_rolled rfl rfl (zero_out (by decide)) (fun cdv A outer s0 H E hr => ?_)
    have hu := hr.units
    have nd := sc_count_rolled.nd
    exact vss_cons (κ1 := [0, 0, 0, 0, 0]) (s := par2 1 2 (cF (.int 1)) (cF (.int 1)))   (vs_tup2 (i := 1) (j := 2) (k1 := 0) (f := cF (.int 1)) (k2 := 0) (g := cF (.int 1)) (T := []) (U := []) (by decide) (by decide) (by decide) (by decide) rfl nd rfl rfl (by first | exact Or.inl rfl | exact Or.inr rfl) (by first | exact Or.inl rfl | exact Or.inr rfl) (ve_int (k := 0)) (ve_int (k := 0)))   (vss_cons (κ1 := [0, 0, 0, 0, 0]) (s := forS (rng2 [odE [] 0 (cF (.int 1)), odE [] 1 (opF addD [odS [0, 0, 0, 0, 0] 0, odE [] 0 (cF (.int 1))])]) (tgN 3) (seqS (setS 1 (opF mulD [odS [0, 0, 0, 0, 0] 1, odE [] 0 (opF subD [odE [] 0 (opF mulD [odE [] 0 (cF (.int 3)), odS [0, 0, 0, 0, 0] 3]), odE [] 0 (cF (.int 1))])])) (seqS (setS 2 (opF mulD [odS [0, 0, 0, 0, 0] 2, odE [] 0 (opF subD [odE [] 0 (opF mulD [odE [] 0 (cF (.int 3)), odS [0, 0, 0, 0, 0] 3]), odE [] 0 (cF (.int 2))])])) (seqS (forS (rng2 [odS [0, 0, 0, 0, 0] 3, odE [] 1 (opF addD [odS [0, 0, 0, 0, 0] 0, odE [] 0 (cF (.int 1))])]) (tgN 4) (seqS (setS 1 (opF mulD [odS [0, 0, 0, 0, 0] 1, odE [] 0 (opF subD [odE [] 1 (opF addD [odE [] 1 (opF addD [odS [0, 0, 0, 0, 0] 0, odS [0, 0, 0, 0, 0] 3]), odS [0, 0, 0, 0, 0] 4]), odE [] 0 (cF (.int 1))])])) (seqS (setS 2 (opF mulD [odS [0, 0, 0, 0, 0] 2, odE [] 0 (opF subD [odE [] 1 (opF addD [odE [] 0 (opF mulD [odE [] 0 (cF (.int 2)), odS [0, 0, 0, 0, 0] 3]), odS [0, 0, 0, 0, 0] 4]), odE [] 0 (cF (.int 1))])])) (nilS)))) (nilS)))))   (vs_for (T := []) (f := rng2 [odE [] 0 (cF (.int 1)), odE [] 1 (opF addD [odS [0, 0, 0, 0, 0] 0, odE [] 0 (cF (.int 1))])]) (m := tgN 3) PassesOwn.never rfl (vi_rng2 (by rfl) (by exact bn "range" (by decide)) (va_cons (vo_e (T := []) (k := 0) (f := cF (.int 1)) (ve_int (k := 0))) (va_cons (vo_e (T := []) (k := 1) (f := opF addD [odS [0, 0, 0, 0, 0] 0, odE [] 0 (cF (.int 1))]) (ve_bin op_addA (O_add (by decide) (by decide)) (xo 0) (vo_e (T := []) (k := 0) (f := cF (.int 1)) (ve_int (k := 0))) (by decide))) (va_nil) (by decide)) (by decide))) (vg_name (i := 3) (κ' := [0, 0, 0, 0, 0]) (by decide) (by decide) rfl nd rfl (by first | exact Or.inl rfl | exact Or.inr rfl))  (vss_cons (κ1 := [0, 0, 0, 0, 0]) (s := setS 1 (opF mulD [odS [0, 0, 0, 0, 0] 1, odE [] 0 (opF subD [odE [] 0 (opF mulD [odE [] 0 (cF (.int 3)), odS [0, 0, 0, 0, 0] 3]), odE [] 0 (cF (.int 1))])]))   (vs_set (i := 1) (T := []) (j := 0) (f := opF mulD [odS [0, 0, 0, 0, 0] 1, odE [] 0 (opF subD [odE [] 0 (opF mulD [odE [] 0 (cF (.int 3)), odS [0, 0, 0, 0, 0] 3]), odE [] 0 (cF (.int 1))])]) (by decide) (by decide) nd rfl (by first | exact Or.inl rfl | exact Or.inr rfl) (ve_bin op_mulA (O_mul (k := 0)) (xo 1) (vo_e (T := []) (k := 0) (f := opF subD [odE [] 0 (opF mulD [odE [] 0 (cF (.int 3)), odS [0, 0, 0, 0, 0] 3]), odE [] 0 (cF (.int 1))]) (ve_bin op_sub (O_sub (k := 0)) (vo_e (T := []) (k := 0) (f := opF mulD [odE [] 0 (cF (.int 3)), odS [0, 0, 0, 0, 0] 3]) (ve_bin op_mulA (O_mul (k := 0)) (vo_e (T := []) (k := 0) (f := cF (.int 3)) (ve_int (k := 0))) (xo 3) (by decide))) (vo_e (T := []) (k := 0) (f := cF (.int 1)) (ve_int (k := 0))) (by decide))) (by decide)))   (vss_cons (κ1 := [0, 0, 0, 0, 0]) (s := setS 2 (opF mulD [odS [0, 0, 0, 0, 0] 2, odE [] 0 (opF subD [odE [] 0 (opF mulD [odE [] 0 (cF (.int 3)), odS [0, 0, 0, 0, 0] 3]), odE [] 0 (cF (.int 2))])]))   (vs_set (i := 2) (T := []) (j := 0) (f := opF mulD [odS [0, 0, 0, 0, 0] 2, odE [] 0 (opF subD [odE [] 0 (opF mulD [odE [] 0 (cF (.int 3)), odS [0, 0, 0, 0, 0] 3]), odE [] 0 (cF (.int 2))])]) (by decide) (by decide) nd rfl (by first | exact Or.inl rfl | exact Or.inr rfl) (ve_bin op_mulA (O_mul (k := 0)) (xo 2) (vo_e (T := []) (k := 0) (f := opF subD [odE [] 0 (opF mulD [odE [] 0 (cF (.int 3)), odS [0, 0, 0, 0, 0] 3]), odE [] 0 (cF (.int 2))]) (ve_bin op_sub (O_sub (k := 0)) (vo_e (T := []) (k := 0) (f := opF mulD [odE [] 0 (cF (.int 3)), odS [0, 0, 0, 0, 0] 3]) (ve_bin op_mulA (O_mul (k := 0)) (vo_e (T := []) (k := 0) (f := cF (.int 3)) (ve_int (k := 0))) (xo 3) (by decide))) (vo_e (T := []) (k := 0) (f := cF (.int 2)) (ve_int (k := 0))) (by decide))) (by decide)))   (vss_cons (κ1 := [0, 0, 0, 0, 0]) (s := forS (rng2 [odS [0, 0, 0, 0, 0] 3, odE [] 1 (opF addD [odS [0, 0, 0, 0, 0] 0, odE [] 0 (cF (.int 1))])]) (tgN 4) (seqS (setS 1 (opF mulD [odS [0, 0, 0, 0, 0] 1, odE [] 0 (opF subD [odE [] 1 (opF addD [odE [] 1 (opF addD [odS [0, 0, 0, 0, 0] 0, odS [0, 0, 0, 0, 0] 3]), odS [0, 0, 0, 0, 0] 4]), odE [] 0 (cF (.int 1))])])) (seqS (setS 2 (opF mulD [odS [0, 0, 0, 0, 0] 2, odE [] 0 (opF subD [odE [] 1 (opF addD [odE [] 0 (opF mulD [odE [] 0 (cF (.int 2)), odS [0, 0, 0, 0, 0] 3]), odS [0, 0, 0, 0, 0] 4]), odE [] 0 (cF (.int 1))])])) (nilS))))   (vs_for (T := []) (f := rng2 [odS [0, 0, 0, 0, 0] 3, odE [] 1 (opF addD [odS [0, 0, 0, 0, 0] 0, odE [] 0 (cF (.int 1))])]) (m := tgN 4) PassesOwn.never rfl (vi_rng2 (by rfl) (by exact bn "range" (by decide)) (va_cons (xo 3) (va_cons (vo_e (T := []) (k := 1) (f := opF addD [odS [0, 0, 0, 0, 0] 0, odE [] 0 (cF (.int 1))]) (ve_bin op_addA (O_add (by decide) (by decide)) (xo 0) (vo_e (T := []) (k := 0) (f := cF (.int 1)) (ve_int (k := 0))) (by decide))) (va_nil) (by decide)) (by decide))) (vg_name (i := 4) (κ' := [0, 0, 0, 0, 0]) (by decide) (by decide) rfl nd rfl (by first | exact Or.inl rfl | exact Or.inr rfl))  (vss_cons (κ1 := [0, 0, 0, 0, 0]) (s := setS 1 (opF mulD [odS [0, 0, 0, 0, 0] 1, odE [] 0 (opF subD [odE [] 1 (opF addD [odE [] 1 (opF addD [odS [0, 0, 0, 0, 0] 0, odS [0, 0, 0, 0, 0] 3]), odS [0, 0, 0, 0, 0] 4]), odE [] 0 (cF (.int 1))])]))   (vs_set (i := 1) (T := []) (j := 0) (f := opF mulD [odS [0, 0, 0, 0, 0] 1, odE [] 0 (opF subD [odE [] 1 (opF addD [odE [] 1 (opF addD [odS [0, 0, 0, 0, 0] 0, odS [0, 0, 0, 0, 0] 3]), odS [0, 0, 0, 0, 0] 4]), odE [] 0 (cF (.int 1))])]) (by decide) (by decide) nd rfl (by first | exact Or.inl rfl | exact Or.inr rfl) (ve_bin op_mulA (O_mul (k := 0)) (xo 1) (vo_e (T := []) (k := 0) (f := opF subD [odE [] 1 (opF addD [odE [] 1 (opF addD [odS [0, 0, 0, 0, 0] 0, odS [0, 0, 0, 0, 0] 3]), odS [0, 0, 0, 0, 0] 4]), odE [] 0 (cF (.int 1))]) (ve_bin op_sub (O_sub (k := 0)) (vo_e (T := []) (k := 1) (f := opF addD [odE [] 1 (opF addD [odS [0, 0, 0, 0, 0] 0, odS [0, 0, 0, 0, 0] 3]), odS [0, 0, 0, 0, 0] 4]) (ve_bin op_addA (O_add (by decide) (by decide)) (vo_e (T := []) (k := 1) (f := opF addD [odS [0, 0, 0, 0, 0] 0, odS [0, 0, 0, 0, 0] 3]) (ve_bin op_addA (O_add (by decide) (by decide)) (xo 0) (xo 3) (by decide))) (xo 4) (by decide))) (vo_e (T := []) (k := 0) (f := cF (.int 1)) (ve_int (k := 0))) (by decide))) (by decide)))   (vss_cons (κ1 := [0, 0, 0, 0, 0]) (s := setS 2 (opF mulD [odS [0, 0, 0, 0, 0] 2, odE [] 0 (opF subD [odE [] 1 (opF addD [odE [] 0 (opF mulD [odE [] 0 (cF (.int 2)), odS [0, 0, 0, 0, 0] 3]), odS [0, 0, 0, 0, 0] 4]), odE [] 0 (cF (.int 1))])]))   (vs_set (i := 2) (T := []) (j := 0) (f := opF mulD [odS [0, 0, 0, 0, 0] 2, odE [] 0 (opF subD [odE [] 1 (opF addD [odE [] 0 (opF mulD [odE [] 0 (cF (.int 2)), odS [0, 0, 0, 0, 0] 3]), odS [0, 0, 0, 0, 0] 4]), odE [] 0 (cF (.int 1))])]) (by decide) (by decide) nd rfl (by first | exact Or.inl rfl | exact Or.inr rfl) (ve_bin op_mulA (O_mul (k := 0)) (xo 2) (vo_e (T := []) (k := 0) (f := opF subD [odE [] 1 (opF addD [odE [] 0 (opF mulD [odE [] 0 (cF (.int 2)), odS [0, 0, 0, 0, 0] 3]), odS [0, 0, 0, 0, 0] 4]), odE [] 0 (cF (.int 1))]) (ve_bin op_sub (O_sub (k := 0)) (vo_e (T := []) (k := 1) (f := opF addD [odE [] 0 (opF mulD [odE [] 0 (cF (.int 2)), odS [0, 0, 0, 0, 0] 3]), odS [0, 0, 0, 0, 0] 4]) (ve_bin op_addA (O_add (by decide) (by decide)) (vo_e (T := []) (k := 0) (f := opF mulD [odE [] 0 (cF (.int 2)), odS [0, 0, 0, 0, 0] 3]) (ve_bin op_mulA (O_mul (k := 0)) (vo_e (T := []) (k := 0) (f := cF (.int 2)) (ve_int (k := 0))) (xo 3) (by decide))) (xo 4) (by decide))) (vo_e (T := []) (k := 0) (f := cF (.int 1)) (ve_int (k := 0))) (by decide))) (by decide)))   (vss_nil))))   (vss_nil)))))   (vss_cons (κ1 := [0, 0, 0, 0, 0]) (s := retS (opF fdivD [odS [0, 0, 0, 0, 0] 1, odS [0, 0, 0, 0, 0] 2]))   (vs_ret (T := []) (f := opF fdivD [odS [0, 0, 0, 0, 0] 1, odS [0, 0, 0, 0, 0] 2]) (ve_bin op_fdivA (O_fdiv (k := 0)) (xo 1) (xo 2) (by decide)))   (vss_nil)))
  exact ⟨fa, fd, _, h, hm, F.kp, hb⟩
abbrev s_count_whole : Stmt := topS 20
abbrev N_count_whole : List Str := ["n", "above", "below", "x", "y", "z"]
theorem sc_count_whole : FnScope N_count_whole ["n"] (defScope s_count_whole) := ⟨rfl, rfl, rfl, by decide +kernel, rfl, by decide +kernel, by decide +kernel⟩
def S_count_whole : SemS := seqS (par2 1 2 (cF (.int 1)) (cF (.int 1))) (seqS (forS (rng2 [odE [] 0 (cF (.int 1)), odE [] 1 (opF addD [odS [0, 0, 0, 0, 0, 0] 0, odE [] 0 (cF (.int 1))])]) (tgN 3) (seqS (forS (rng2 [odS [0, 0, 0, 0, 0, 0] 3, odE [] 1 (opF addD [odS [0, 0, 0, 0, 0, 0] 0, odE [] 0 (cF (.int 1))])]) (tgN 4) (seqS (forS (rng2 [odS [0, 0, 0, 0, 0, 0] 4, odE [] 1 (opF addD [odS [0, 0, 0, 0, 0, 0] 0, odE [] 0 (cF (.int 1))])]) (tgN 5) (seqS (setS 1 (opF mulD [odS [0, 0, 0, 0, 0, 0] 1, odE [] 0 (opF subD [odE [] 1 (opF addD [odE [] 1 (opF addD [odS [0, 0, 0, 0, 0, 0] 3, odS [0, 0, 0, 0, 0, 0] 4]), odS [0, 0, 0, 0, 0, 0] 5]), odE [] 0 (cF (.int 1))])])) (seqS (setS 2 (opF mulD [odS [0, 0, 0, 0, 0, 0] 2, odE [] 0 (opF subD [odE [] 1 (opF addD [odE [] 1 (opF addD [odS [0, 0, 0, 0, 0, 0] 3, odS [0, 0, 0, 0, 0, 0] 4]), odS [0, 0, 0, 0, 0, 0] 5]), odE [] 0 (cF (.int 2))])])) (nilS)))) (nilS))) (nilS))) (seqS (retS (opF fdivD [odS [0, 0, 0, 0, 0, 0] 1, odS [0, 0, 0, 0, 0, 0] 2])) (nilS)))
def F_count_whole : Sem0 := fnF [] N_count_whole.length S_count_whole
theorem ok_count_whole {P : Program} {w : World} {K : PySem.W.Frag} {mg : Str → Option Value} {base : Heap} {fa : Addr} {fd : FuncData} (F : Fun K "count_whole" "count_whole" s_count_whole fa fd) (hm : mg "count_whole" = some (.ref fa)) (hb : Binds K fd ["n"] []) (bn : ∀ x, x ∈ bnames → mg x = none)  : CalD P w K mg base 1 "count_whole" (spD ⟨K, P, w⟩ [] [0] 0 F_count_whole) := by
  have h : FnOk P w K mg base CX0 1 fa fd ["n"] (spD ⟨K, P, w⟩ [] [0] 0 (fnF [] N_count_whole.length S_count_whole)) := by
    refine fn_ok (lv := 0) (N := N_count_whole) (κ' := [0, 0, 0, 0, 0, 0]) (κp := [0]) (κl := [0, 0, 0, 0, 0]) (Φ := []) (s := S_count_whole) F sc_count_whole rfl rfl (zero_out (by decide)) (fun cdv A outer s0 H E hr => ?_)
    have hu := hr.units
    have nd := sc_count_whole.nd
    exact vss_cons (κ1 := [0, 0, 0, 0, 0, 0]) (s := par2 1 2 (cF (.int 1)) (cF (.int 1)))   (vs_tup2 (i := 1) (j := 2) (k1 := 0) (f := cF (.int 1)) (k2 := 0) (g := cF (.int 1)) (T := []) (U := []) (by decide) (by decide) (by decide) (by decide) rfl nd rfl rfl (by first | exact Or.inl rfl | exact Or.inr rfl) (by first | exact Or.inl rfl | exact Or.inr rfl) (ve_int (k := 0)) (ve_int (k := 0)))   (vss_cons (κ1 := [0, 0, 0, 0, 0, 0]) (s := forS (rng2 [odE [] 0 (cF (.int 1)), odE [] 1 (opF addD [odS [0, 0, 0, 0, 0, 0] 0, odE [] 0 (cF (.int 1))])]) (tgN 3) (seqS (forS (rng2 [odS [0, 0, 0, 0, 0, 0] 3, odE [] 1 (opF addD [odS [0, 0, 0, 0, 0, 0] 0, odE [] 0 (cF (.int 1))])]) (tgN 4) (seqS (forS (rng2 [odS [0, 0, 0, 0, 0, 0] 4, odE [] 1 (opF addD [odS [0, 0, 0, 0, 0, 0] 0, odE [] 0 (cF (.int 1))])]) (tgN 5) (seqS (setS 1 (opF mulD [odS [0, 0, 0, 0, 0, 0] 1, odE [] 0 (opF subD [odE [] 1 (opF addD [odE [] 1 (opF addD [odS [0, 0, 0, 0, 0, 0] 3, odS [0, 0, 0, 0, 0, 0] 4]), odS [0, 0, 0, 0, 0, 0] 5]), odE [] 0 (cF (.int 1))])])) (seqS (setS 2 (opF mulD [odS [0, 0, 0, 0, 0, 0] 2, odE [] 0 (opF subD [odE [] 1 (opF addD [odE [] 1 (opF addD [odS [0, 0, 0, 0, 0, 0] 3, odS [0, 0, 0, 0, 0, 0] 4]), odS [0, 0, 0, 0, 0, 0] 5]), odE [] 0 (cF (.int 2))])])) (nilS)))) (nilS))) (nilS)))   (vs_for (T := []) (f := rng2 [odE [] 0 (cF (.int 1)), odE [] 1 (opF addD [odS [0, 0, 0, 0, 0, 0] 0, odE [] 0 (cF (.int 1))])]) (m := tgN 3) PassesOwn.never rfl (vi_rng2 (by rfl) (by exact bn "range" (by decide)) (va_cons (vo_e (T := []) (k := 0) (f := cF (.int 1)) (ve_int (k := 0))) (va_cons (vo_e (T := []) (k := 1) (f := opF addD [odS [0, 0, 0, 0, 0, 0] 0, odE [] 0 (cF (.int 1))]) (ve_bin op_addA (O_add (by decide) (by decide)) (xo 0) (vo_e (T := []) (k := 0) (f := cF (.int 1)) (ve_int (k := 0))) (by decide))) (va_nil) (by decide)) (by decide))) (vg_name (i := 3) (κ' := [0, 0, 0, 0, 0, 0]) (by decide) (by decide) rfl nd rfl (by first | exact Or.inl rfl | exact Or.inr rfl))  (vss_cons (κ1 := [0, 0, 0, 0, 0, 0]) (s := forS (rng2 [odS [0, 0, 0, 0, 0, 0] 3, odE [] 1 (opF addD [odS [0, 0, 0, 0, 0, 0] 0, odE [] 0 (cF (.int 1))])]) (tgN 4) (seqS (forS (rng2 [odS [0, 0, 0, 0, 0, 0] 4, odE [] 1 (opF addD [odS [0, 0, 0, 0, 0, 0] 0, odE [] 0 (cF (.int 1))])]) (tgN 5) (seqS (setS 1 (opF mulD [odS [0, 0, 0, 0, 0, 0] 1, odE [] 0 (opF subD [odE [] 1 (opF addD [odE [] 1 (opF addD [odS [0, 0, 0, 0, 0, 0] 3, odS [0, 0, 0, 0, 0, 0] 4]), odS [0, 0, 0, 0, 0, 0] 5]), odE [] 0 (cF (.int 1))])])) (seqS (setS 2 (opF mulD [odS [0, 0, 0, 0, 0, 0] 2, odE [] 0 (opF subD [odE [] 1 (opF addD [odE [] 1 (opF addD [odS [0, 0, 0, 0, 0, 0] 3, odS [0, 0, 0, 0, 0, 0] 4]), odS [0, 0, 0, 0, 0, 0] 5]), odE [] 0 (cF (.int 2))])])) (nilS)))) (nilS)))   (vs_for (T := []) (f := rng2 [odS [0, 0, 0, 0, 0, 0] 3, odE [] 1 (opF addD [odS [0, 0, 0, 0, 0, 0] 0, odE [] 0 (cF (.int 1))])]) (m := tgN 4) PassesOwn.never rfl (vi_rng2 (by rfl) (by exact bn "range" (by decide)) (va_cons (xo 3) (va_cons (vo_e (T := []) (k := 1) (f := opF addD [odS [0, 0, 0, 0, 0, 0] 0, odE [] 0 (cF (.int 1))]) (ve_bin op_addA (O_add (by decide) (by decide)) (xo 0) (vo_e (T := []) (k := 0) (f := cF (.int 1)) (ve_int (k := 0))) (by decide))) (va_nil) (by decide)) (by decide))) (vg_name (i := 4) (κ' := [0, 0, 0, 0, 0, 0]) (by decide) (by decide) rfl nd rfl (by first | exact Or.inl rfl | exact Or.inr rfl))  (vss_cons (κ1 := [0, 0, 0, 0, 0, 0]) (s := forS (rng2 [odS [0, 0, 0, 0, 0, 0] 4, odE [] 1 (opF addD [odS [0, 0, 0, 0, 0, 0] 0, odE [] 0 (cF (.int 1))])]) (tgN 5) (seqS (setS 1 (opF mulD [odS [0, 0, 0, 0, 0, 0] 1, odE [] 0 (opF subD [odE [] 1 (opF addD [odE [] 1 (opF addD [odS [0, 0, 0, 0, 0, 0] 3, odS [0, 0, 0, 0, 0, 0] 4]), odS [0, 0, 0, 0, 0, 0] 5]), odE [] 0 (cF (.int 1))])])) (seqS (setS 2 (opF mulD [odS [0, 0, 0, 0, 0, 0] 2, odE [] 0 (opF subD [odE [] 1 (opF addD [odE [] 1 (opF addD [odS [0, 0, 0, 0, 0, 0] 3, odS [0, 0, 0, 0, 0, 0] 4]), odS [0, 0, 0, 0, 0, 0] 5]), odE [] 0 (cF (.int 2))])])) (nilS))))   (vs_for (T := []) (f := rng2 [odS [0, 0, 0, 0, 0, 0] 4, odE [] 1 (opF addD [odS [0, 0, 0, 0, 0, 0] 0, odE [] 0 (cF (.int 1))])]) (m := tgN 5) PassesOwn.never rfl (vi_rng2 (by rfl) (by exact bn "range" (by decide)) (va_cons (xo 4) (va_cons (vo_e (T := []) (k := 1) (f := opF addD [odS [0, 0, 0, 0, 0, 0] 0, odE [] 0 (cF (.int 1))]) (ve_bin op_addA (O_add (by decide) (by decide)) (xo 0) (vo_e (T := []) (k := 0) (f := cF (.int 1)) (ve_int (k := 0))) (by decide))) (va_nil) (by decide)) (by decide))) (vg_name (i := 5) (κ' := [0, 0, 0, 0, 0, 0]) (by decide) (by decide) rfl nd rfl (by first | exact Or.inl rfl | exact Or.inr rfl))  (vss_cons (κ1 := [0, 0, 0, 0, 0, 0]) (s := setS 1 (opF mulD [odS [0, 0, 0, 0, 0, 0] 1, odE [] 0 (opF subD [odE [] 1 (opF addD [odE [] 1 (opF addD [odS [0, 0, 0, 0, 0, 0] 3, odS [0, 0, 0, 0, 0, 0] 4]), odS [0, 0, 0, 0, 0, 0] 5]), odE [] 0 (cF (.int 1))])]))   (vs_set (i := 1) (T := []) (j := 0) (f := opF mulD [odS [0, 0, 0, 0, 0, 0] 1, odE [] 0 (opF subD [odE [] 1 (opF addD [odE [] 1 (opF addD [odS [0, 0, 0, 0, 0, 0] 3, odS [0, 0, 0, 0, 0, 0] 4]), odS [0, 0, 0, 0, 0, 0] 5]), odE [] 0 (cF (.int 1))])]) (by decide) (by decide) nd rfl (by first | exact Or.inl rfl | exact Or.inr rfl) (ve_bin op_mulA (O_mul (k := 0)) (xo 1) (vo_e (T := []) (k := 0) (f := opF subD [odE [] 1 (opF addD [odE [] 1 (opF addD [odS [0, 0, 0, 0, 0, 0] 3, odS [0, 0, 0, 0, 0, 0] 4]), odS [0, 0, 0, 0, 0, 0] 5]), odE [] 0 (cF (.int 1))]) (ve_bin op_sub (O_sub (k := 0)) (vo_e (T := []) (k := 1) (f := opF addD [odE [] 1 (opF addD [odS [0, 0, 0, 0, 0, 0] 3, odS [0, 0, 0, 0, 0, 0] 4]), odS [0, 0, 0, 0, 0, 0] 5]) (ve_bin op_addA (O_add (by decide) (by decide)) (vo_e (T := []) (k := 1) (f := opF addD [odS [0, 0, 0, 0, 0, 0] 3, odS [0, 0, 0, 0, 0, 0] 4]) (ve_bin op_addA (O_add (by decide) (by decide)) (xo 3) (xo 4) (by decide))) (xo 5) (by decide))) (vo_e (T := []) (k := 0) (f := cF (.int 1)) (ve_int (k := 0))) (by decide))) (by decide)))   (vss_cons (κ1 := [0, 0, 0, 0, 0, 0]) (s := setS 2 (opF mulD [odS [0, 0, 0, 0, 0, 0] 2, odE [] 0 (opF subD [odE [] 1 (opF addD [odE [] 1 (opF addD [odS [0, 0, 0, 0, 0, 0] 3, odS [0, 0, 0, 0, 0, 0] 4]), odS [0, 0, 0, 0, 0, 0] 5]), odE [] 0 (cF (.int 2))])]))   (vs_set (i := 2) (T := []) (j := 0) (f := opF mulD [odS [0, 0, 0, 0, 0, 0] 2, odE [] 0 (opF subD [odE [] 1 (opF addD [odE [] 1 (opF addD [odS [0, 0, 0, 0, 0, 0] 3, odS [0, 0, 0, 0, 0, 0] 4]), odS [0, 0, 0, 0, 0, 0] 5]), odE [] 0 (cF (.int 2))])]) (by decide) (by decide) nd rfl (by first | exact Or.inl rfl | exact Or.inr rfl) (ve_bin op_mulA (O_mul (k := 0)) (xo 2) (vo_e (T := []) (k := 0) (f := opF subD [odE [] 1 (opF addD [odE [] 1 (opF addD [odS [0, 0, 0, 0, 0, 0] 3, odS [0, 0, 0, 0, 0, 0] 4]), odS [0, 0, 0, 0, 0, 0] 5]), odE [] 0 (cF (.int 2))]) (ve_bin op_sub (O_sub (k := 0)) (vo_e (T := []) (k := 1) (f := opF addD [odE [] 1 (opF addD [odS [0, 0, 0, 0, 0, 0] 3, odS [0, 0, 0, 0, 0, 0] 4]), odS [0, 0, 0, 0, 0, 0] 5]) (ve_bin op_addA (O_add (by decide) (by decide)) (vo_e (T := []) (k := 1) (f := opF addD [odS [0, 0, 0, 0, 0, 0] 3, odS [0, 0, 0, 0, 0, 0] 4]) (ve_bin op_addA (O_add (by decide) (by decide)) (xo 3) (xo 4) (by decide))) (xo 5) (by decide))) (vo_e (T := []) (k := 0) (f := cF (.int 2)) (ve_int (k := 0))) (by decide))) (by decide)))   (vss_nil))))   (vss_nil)))   (vss_nil)))   (vss_cons (κ1 := [0, 0, 0, 0, 0, 0]) (s := retS (opF fdivD [odS [0, 0, 0, 0, 0, 0] 1, odS [0, 0, 0, 0, 0, 0] 2]))   (vs_ret (T := []) (f := opF fdivD [odS [0, 0, 0, 0, 0, 0] 1, odS [0, 0, 0, 0, 0, 0] 2]) (ve_bin op_fdivA (O_fdiv (k := 0)) (xo 1) (xo 2) (by decide)))   (vss_nil)))
  exact ⟨fa, fd, _, h, hm, F.kp, hb⟩
abbrev s_count_mirrored : Stmt := topS 21
abbrev N_count_mirrored : List Str := ["a", "b", "c", "odd", "even", "first", "second", "side", "low", "one", "other"]
theorem sc_count_mirrored : FnScope N_count_mirrored ["a", "b", "c"] (defScope s_count_mirrored) := ⟨rfl, rfl, rfl, by decide +kernel, rfl, by decide +kernel, by decide +kernel⟩
def S_count_mirrored : SemS := seqS (setS 3 (lcF (clF (seqSrc (opF tupD [odE [] 0 (rd 0), odE [] 0 (rd 1), odE [] 0 (rd 2)])) [7] (tgN 7) (tstF (opF eqD [odE [] 0 (opF modD [odS [0, 0, 0, 0, 0, 0, 0, 0, 0, 0, 0] 7, odE [] 0 (cF (.int 2))]), odE [] 0 (cF (.int 1))])) (oneF (rd 7))))) (seqS (setS 4 (lcF (clF (seqSrc (opF tupD [odE [] 0 (rd 0), odE [] 0 (rd 1), odE [] 0 (rd 2)])) [7] (tgN 7) (tstF (opF eqD [odE [] 0 (opF modD [odS [0, 0, 0, 0, 0, 0, 0, 0, 0, 0, 0] 7, odE [] 0 (cF (.int 2))]), odE [] 0 (cF (.int 0))])) (oneF (rd 7))))) (seqS (ifS (tstF (opF eqD [odE [] 0 (opF lenD [odS [0, 0, 0, 0, 0, 0, 0, 0, 0, 0, 0] 3]), odE [] 0 (cF (.int 3))])) (seqS (retS (cF (.int 0))) (nilS)) (nilS)) (seqS (ifS (notF (truO (odS [0, 0, 0, 0, 0, 0, 0, 0, 0, 0, 0] 3))) (seqS (retS (opF mulD [odE [] 0 (callF [odE [] 0 (opF fdivD [odS [0, 0, 0, 0, 0, 0, 0, 0, 0, 0, 0] 0, odE [] 0 (cF (.int 2))]), odE [] 0 (opF fdivD [odS [0, 0, 0, 0, 0, 0, 0, 0, 0, 0, 0] 1, odE [] 0 (cF (.int 2))]), odE [] 0 (opF fdivD [odS [0, 0, 0, 0, 0, 0, 0, 0, 0, 0, 0] 2, odE [] 0 (cF (.int 2))])] F_count_heaps), odE [] 0 (callF [odE [] 0 (opF fdivD [odS [0, 0, 0, 0, 0, 0, 0, 0, 0, 0, 0] 0, odE [] 0 (cF (.int 2))]), odE [] 0 (opF fdivD [odS [0, 0, 0, 0, 0, 0, 0, 0, 0, 0, 0] 1, odE [] 0 (cF (.int 2))]), odE [] 0 (opF fdivD [odS [0, 0, 0, 0, 0, 0, 0, 0, 0, 0, 0] 2, odE [] 0 (cF (.int 2))])] F_count_heaps)])) (nilS)) (nilS)) (seqS (ifS (tstF (opF eqD [odE [] 0 (opF lenD [odS [0, 0, 0, 0, 0, 0, 0, 0, 0, 0, 0] 3]), odE [] 0 (cF (.int 1))])) (seqS (par3 8 9 10 (opF fdivD [odE [] 0 (opF ixD [odS [0, 0, 0, 0, 0, 0, 0, 0, 0, 0, 0] 3, odE [] 0 (cF (.int 0))]), odE [] 0 (cF (.int 2))]) (opF fdivD [odE [] 0 (opF ixD [odS [0, 0, 0, 0, 0, 0, 0, 0, 0, 0, 0] 4, odE [] 0 (cF (.int 0))]), odE [] 0 (cF (.int 2))]) (opF fdivD [odE [] 0 (opF ixD [odS [0, 0, 0, 0, 0, 0, 0, 0, 0, 0, 0] 4, odE [] 0 (cF (.int 1))]), odE [] 0 (cF (.int 2))])) (seqS (retS (opF mulD [odE [] 0 (callF [odE [] 0 (rd 8), odE [] 0 (rd 9), odE [] 0 (rd 10)] F_count_heaps), odE [] 0 (callF [odE [] 0 (opF addD [odS [0, 0, 0, 0, 0, 0, 0, 0, 0, 0, 0] 8, odE [] 0 (cF (.int 1))]), odE [] 0 (rd 9), odE [] 0 (rd 10)] F_count_heaps)])) (nilS))) (nilS)) (seqS (par3 5 6 7 (opF fdivD [odE [] 0 (opF ixD [odS [0, 0, 0, 0, 0, 0, 0, 0, 0, 0, 0] 3, odE [] 0 (cF (.int 0))]), odE [] 0 (cF (.int 2))]) (opF fdivD [odE [] 0 (opF ixD [odS [0, 0, 0, 0, 0, 0, 0, 0, 0, 0, 0] 3, odE [] 0 (cF (.int 1))]), odE [] 0 (cF (.int 2))]) (opF fdivD [odE [] 0 (opF ixD [odS [0, 0, 0, 0, 0, 0, 0, 0, 0, 0, 0] 4, odE [] 0 (cF (.int 0))]), odE [] 0 (cF (.int 2))])) (seqS (retS (opF mulD [odE [] 0 (callF [odE [] 0 (opF addD [odS [0, 0, 0, 0, 0, 0, 0, 0, 0, 0, 0] 5, odE [] 0 (cF (.int 1))]), odE [] 0 (rd 6), odE [] 0 (rd 7)] F_count_heaps), odE [] 0 (callF [odE [] 0 (rd 5), odE [] 0 (opF addD [odS [0, 0, 0, 0, 0, 0, 0, 0, 0, 0, 0] 6, odE [] 0 (cF (.int 1))]), odE [] 0 (rd 7)] F_count_heaps)])) (nilS)))))))
def F_count_mirrored : Sem0 := fnF [] N_count_mirrored.length S_count_mirrored
theorem ok_count_mirrored {P : Program} {w : World} {K : PySem.W.Frag} {mg : Str → Option Value} {base : Heap} {fa : Addr} {fd : FuncData} (F : Fun K "count_mirrored" "count_mirrored" s_count_mirrored fa fd) (hm : mg "count_mirrored" = some (.ref fa)) (hb : Binds K fd ["a", "b", "c"] []) (bn : ∀ x, x ∈ bnames → mg x = none) (C_count_heaps : CalD P w K mg base 1 "count_heaps" (spD ⟨K, P, w⟩ [] [0, 0, 0] 0 F_count_heaps)) : CalD P w K mg base 2 "count_mirrored" (spD ⟨K, P, w⟩ [] [0, 0, 0] 0 F_count_mirrored) := by
  have h : FnOk P w K mg base CX0 2 fa fd ["a", "b", "c"] (spD ⟨K, P, w⟩ [] [0, 0, 0] 0 (fnF [] N_count_mirrored.length S_count_mirrored)) := by
    refine fn_ok (lv := 1) (N := N_count_mirrored) (κ' := [0, 0, 0, 0, 0, 0, 0, 0, 0, 0, 0]) (κp := [0, 0, 0]) (κl := [0, 0, 0, 0, 0, 0, 0, 0]) (Φ := []) (s := S_count_mirrored) F sc_count_mirrored rfl rfl (zero_out (by decide)) (fun cdv A outer s0 H E hr => ?_)
    have hu := hr.units
    have nd := sc_count_mirrored.nd
    exact vss_cons (κ1 := [0, 0, 0, 1, 0, 0, 0, 0, 0, 0, 0]) (s := setS 3 (lcF (clF (seqSrc (opF tupD [odE [] 0 (rd 0), odE [] 0 (rd 1), odE [] 0 (rd 2)])) [7] (tgN 7) (tstF (opF eqD [odE [] 0 (opF modD [odS [0, 0, 0, 0, 0, 0, 0, 0, 0, 0, 0] 7, odE [] 0 (cF (.int 2))]), odE [] 0 (cF (.int 1))])) (oneF (rd 7)))))   (vs_setLc (i := 3) (κ := [0, 0, 0, 0, 0, 0, 0, 0, 0, 0, 0]) (T0 := []) (T1 := []) (T2 := []) (k := 0) (Φc := [0, 1, 2, 3, 4, 5, 6, 8, 9, 10]) [] [("side", 7)] (by decide) (by decide) (by decide) (by decide) (by decide) (by decide) (by decide) (by decide) rfl nd rfl rfl (sw_true rfl rfl rfl (by decide +kernel)) (vi_seq (ve_tup (O_tup (k := 0) (by decide)) (va_cons (vo_e (T := []) (k := 0) (f := rd 0) (xv 0)) (va_cons (vo_e (T := []) (k := 0) (f := rd 1) (xv 1)) (va_cons (vo_e (T := []) (k := 0) (f := rd 2) (xv 2)) (va_nil) (by decide)) (by decide)) (by decide)))) (blkOk_by (by kernel_rfl)) (fun s0 H0 C0 cl0 fp0 => vg_name (i := 7) (κ' := [0, 0, 0, 0, 0, 0, 0, 0, 0, 0, 0]) (by decide) (by decide) rfl nd rfl (by first | exact Or.inl rfl | exact Or.inr rfl)) (fun s0 H0 C0 cl0 fp0 => vts_one (vt_cmp (op_eqA hu) (O_eq ) (vo_e (T := []) (k := 0) (f := opF modD [odS [0, 0, 0, 0, 0, 0, 0, 0, 0, 0, 0] 7, odE [] 0 (cF (.int 2))]) (ve_bin op_mod (O_mod (k := 0)) (xo 7) (vo_e (T := []) (k := 0) (f := cF (.int 2)) (ve_int (k := 0))) (by decide))) (vo_e (T := []) (k := 0) (f := cF (.int 1)) (ve_int (k := 0))) (by decide))) (fun s0 H0 C0 cl0 fp0 => xv 7))   (vss_frz 3 (by decide) (vss_cons (κ1 := [0, 0, 0, 0, 1, 0, 0, 0, 0, 0, 0]) (s := setS 4 (lcF (clF (seqSrc (opF tupD [odE [] 0 (rd 0), odE [] 0 (rd 1), odE [] 0 (rd 2)])) [7] (tgN 7) (tstF (opF eqD [odE [] 0 (opF modD [odS [0, 0, 0, 0, 0, 0, 0, 0, 0, 0, 0] 7, odE [] 0 (cF (.int 2))]), odE [] 0 (cF (.int 0))])) (oneF (rd 7)))))   (vs_setLc (i := 4) (κ := [0, 0, 0, 0, 0, 0, 0, 0, 0, 0, 0]) (T0 := []) (T1 := []) (T2 := []) (k := 0) (Φc := [0, 1, 2, 3, 4, 5, 6, 8, 9, 10]) [] [("side", 7)] (by decide) (by decide) (by decide) (by decide) (by decide) (by decide) (by decide) (by decide) rfl nd rfl rfl (sw_true rfl rfl rfl (by decide +kernel)) (vi_seq (ve_tup (O_tup (k := 0) (by decide)) (va_cons (vo_e (T := []) (k := 0) (f := rd 0) (xv 0)) (va_cons (vo_e (T := []) (k := 0) (f := rd 1) (xv 1)) (va_cons (vo_e (T := []) (k := 0) (f := rd 2) (xv 2)) (va_nil) (by decide)) (by decide)) (by decide)))) (blkOk_by (by kernel_rfl)) (fun s0 H0 C0 cl0 fp0 => vg_name (i := 7) (κ' := [0, 0, 0, 0, 0, 0, 0, 0, 0, 0, 0]) (by decide) (by decide) rfl nd rfl (by first | exact Or.inl rfl | exact Or.inr rfl)) (fun s0 H0 C0 cl0 fp0 => vts_one (vt_cmp (op_eqA hu) (O_eq ) (vo_e (T := []) (k := 0) (f := opF modD [odS [0, 0, 0, 0, 0, 0, 0, 0, 0, 0, 0] 7, odE [] 0 (cF (.int 2))]) (ve_bin op_mod (O_mod (k := 0)) (xo 7) (vo_e (T := []) (k := 0) (f := cF (.int 2)) (ve_int (k := 0))) (by decide))) (vo_e (T := []) (k := 0) (f := cF (.int 0)) (ve_int (k := 0))) (by decide))) (fun s0 H0 C0 cl0 fp0 => xv 7))   (vss_frz 4 (by decide) (vss_cons (κ1 := [0, 0, 0, 0, 0, 0, 0, 0, 0, 0, 0]) (s := ifS (tstF (opF eqD [odE [] 0 (opF lenD [odS [0, 0, 0, 0, 0, 0, 0, 0, 0, 0, 0] 3]), odE [] 0 (cF (.int 3))])) (seqS (retS (cF (.int 0))) (nilS)) (nilS))   (vs_if (T := []) (t := tstF (opF eqD [odE [] 0 (opF lenD [odS [0, 0, 0, 0, 0, 0, 0, 0, 0, 0, 0] 3]), odE [] 0 (cF (.int 3))])) (vt_cmp (op_eqA hu) (O_eq ) (vo_e (T := []) (k := 0) (f := opF lenD [odS [0, 0, 0, 0, 0, 0, 0, 0, 0, 0, 0] 3]) (ve_callB call_len (O_len (k := 0)) (by rfl) (by exact bn "len" (by decide)) vb_len (va_cons (xo 3) (va_nil) (by decide)))) (vo_e (T := []) (k := 0) (f := cF (.int 3)) (ve_int (k := 0))) (by decide))  (vss_cons (κ1 := [0, 0, 0, 0, 0, 0, 0, 0, 0, 0, 0]) (s := retS (cF (.int 0)))   (vs_ret (T := []) (f := cF (.int 0)) (ve_int (k := 0)))   (vss_nil))  (vss_nil))   (vss_cons (κ1 := [0, 0, 0, 0, 0, 0, 0, 0, 0, 0, 0]) (s := ifS (notF (truO (odS [0, 0, 0, 0, 0, 0, 0, 0, 0, 0, 0] 3))) (seqS (retS (opF mulD [odE [] 0 (callF [odE [] 0 (opF fdivD [odS [0, 0, 0, 0, 0, 0, 0, 0, 0, 0, 0] 0, odE [] 0 (cF (.int 2))]), odE [] 0 (opF fdivD [odS [0, 0, 0, 0, 0, 0, 0, 0, 0, 0, 0] 1, odE [] 0 (cF (.int 2))]), odE [] 0 (opF fdivD [odS [0, 0, 0, 0, 0, 0, 0, 0, 0, 0, 0] 2, odE [] 0 (cF (.int 2))])] F_count_heaps), odE [] 0 (callF [odE [] 0 (opF fdivD [odS [0, 0, 0, 0, 0, 0, 0, 0, 0, 0, 0] 0, odE [] 0 (cF (.int 2))]), odE [] 0 (opF fdivD [odS [0, 0, 0, 0, 0, 0, 0, 0, 0, 0, 0] 1, odE [] 0 (cF (.int 2))]), odE [] 0 (opF fdivD [odS [0, 0, 0, 0, 0, 0, 0, 0, 0, 0, 0] 2, odE [] 0 (cF (.int 2))])] F_count_heaps)])) (nilS)) (nilS))   (vs_if (T := []) (t := notF (truO (odS [0, 0, 0, 0, 0, 0, 0, 0, 0, 0, 0] 3))) (vt_not (vt_tru (xo 3)))  (vss_cons (κ1 := [0, 0, 0, 0, 0, 0, 0, 0, 0, 0, 0]) (s := retS (opF mulD [odE [] 0 (callF [odE [] 0 (opF fdivD [odS [0, 0, 0, 0, 0, 0, 0, 0, 0, 0, 0] 0, odE [] 0 (cF (.int 2))]), odE [] 0 (opF fdivD [odS [0, 0, 0, 0, 0, 0, 0, 0, 0, 0, 0] 1, odE [] 0 (cF (.int 2))]), odE [] 0 (opF fdivD [odS [0, 0, 0, 0, 0, 0, 0, 0, 0, 0, 0] 2, odE [] 0 (cF (.int 2))])] F_count_heaps), odE [] 0 (callF [odE [] 0 (opF fdivD [odS [0, 0, 0, 0, 0, 0, 0, 0, 0, 0, 0] 0, odE [] 0 (cF (.int 2))]), odE [] 0 (opF fdivD [odS [0, 0, 0, 0, 0, 0, 0, 0, 0, 0, 0] 1, odE [] 0 (cF (.int 2))]), odE [] 0 (opF fdivD [odS [0, 0, 0, 0, 0, 0, 0, 0, 0, 0, 0] 2, odE [] 0 (cF (.int 2))])] F_count_heaps)]))   (vs_ret (T := []) (f := opF mulD [odE [] 0 (callF [odE [] 0 (opF fdivD [odS [0, 0, 0, 0, 0, 0, 0, 0, 0, 0, 0] 0, odE [] 0 (cF (.int 2))]), odE [] 0 (opF fdivD [odS [0, 0, 0, 0, 0, 0, 0, 0, 0, 0, 0] 1, odE [] 0 (cF (.int 2))]), odE [] 0 (opF fdivD [odS [0, 0, 0, 0, 0, 0, 0, 0, 0, 0, 0] 2, odE [] 0 (cF (.int 2))])] F_count_heaps), odE [] 0 (callF [odE [] 0 (opF fdivD [odS [0, 0, 0, 0, 0, 0, 0, 0, 0, 0, 0] 0, odE [] 0 (cF (.int 2))]), odE [] 0 (opF fdivD [odS [0, 0, 0, 0, 0, 0, 0, 0, 0, 0, 0] 1, odE [] 0 (cF (.int 2))]), odE [] 0 (opF fdivD [odS [0, 0, 0, 0, 0, 0, 0, 0, 0, 0, 0] 2, odE [] 0 (cF (.int 2))])] F_count_heaps)]) (ve_bin op_mulA (O_mul (k := 0)) (vo_e (T := []) (k := 0) (f := callF [odE [] 0 (opF fdivD [odS [0, 0, 0, 0, 0, 0, 0, 0, 0, 0, 0] 0, odE [] 0 (cF (.int 2))]), odE [] 0 (opF fdivD [odS [0, 0, 0, 0, 0, 0, 0, 0, 0, 0, 0] 1, odE [] 0 (cF (.int 2))]), odE [] 0 (opF fdivD [odS [0, 0, 0, 0, 0, 0, 0, 0, 0, 0, 0] 2, odE [] 0 (cF (.int 2))])] F_count_heaps) (ve_fn (k := 0) (fn := F_count_heaps) (C_count_heaps.mono (by decide)) hr (va_cons (vo_e (T := []) (k := 0) (f := opF fdivD [odS [0, 0, 0, 0, 0, 0, 0, 0, 0, 0, 0] 0, odE [] 0 (cF (.int 2))]) (ve_bin op_fdivA (O_fdiv (k := 0)) (xo 0) (vo_e (T := []) (k := 0) (f := cF (.int 2)) (ve_int (k := 0))) (by decide))) (va_cons (vo_e (T := []) (k := 0) (f := opF fdivD [odS [0, 0, 0, 0, 0, 0, 0, 0, 0, 0, 0] 1, odE [] 0 (cF (.int 2))]) (ve_bin op_fdivA (O_fdiv (k := 0)) (xo 1) (vo_e (T := []) (k := 0) (f := cF (.int 2)) (ve_int (k := 0))) (by decide))) (va_cons (vo_e (T := []) (k := 0) (f := opF fdivD [odS [0, 0, 0, 0, 0, 0, 0, 0, 0, 0, 0] 2, odE [] 0 (cF (.int 2))]) (ve_bin op_fdivA (O_fdiv (k := 0)) (xo 2) (vo_e (T := []) (k := 0) (f := cF (.int 2)) (ve_int (k := 0))) (by decide))) (va_nil) (by decide)) (by decide)) (by decide)))) (vo_e (T := []) (k := 0) (f := callF [odE [] 0 (opF fdivD [odS [0, 0, 0, 0, 0, 0, 0, 0, 0, 0, 0] 0, odE [] 0 (cF (.int 2))]), odE [] 0 (opF fdivD [odS [0, 0, 0, 0, 0, 0, 0, 0, 0, 0, 0] 1, odE [] 0 (cF (.int 2))]), odE [] 0 (opF fdivD [odS [0, 0, 0, 0, 0, 0, 0, 0, 0, 0, 0] 2, odE [] 0 (cF (.int 2))])] F_count_heaps) (ve_fn (k := 0) (fn := F_count_heaps) (C_count_heaps.mono (by decide)) hr (va_cons (vo_e (T := []) (k := 0) (f := opF fdivD [odS [0, 0, 0, 0, 0, 0, 0, 0, 0, 0, 0] 0, odE [] 0 (cF (.int 2))]) (ve_bin op_fdivA (O_fdiv (k := 0)) (xo 0) (vo_e (T := []) (k := 0) (f := cF (.int 2)) (ve_int (k := 0))) (by decide))) (va_cons (vo_e (T := []) (k := 0) (f := opF fdivD [odS [0, 0, 0, 0, 0, 0, 0, 0, 0, 0, 0] 1, odE [] 0 (cF (.int 2))]) (ve_bin op_fdivA (O_fdiv (k := 0)) (xo 1) (vo_e (T := []) (k := 0) (f := cF (.int 2)) (ve_int (k := 0))) (by decide))) (va_cons (vo_e (T := []) (k := 0) (f := opF fdivD [odS [0, 0, 0, 0, 0, 0, 0, 0, 0, 0, 0] 2, odE [] 0 (cF (.int 2))]) (ve_bin op_fdivA (O_fdiv (k := 0)) (xo 2) (vo_e (T := []) (k := 0) (f := cF (.int 2)) (ve_int (k := 0))) (by decide))) (va_nil) (by decide)) (by decide)) (by decide)))) (by decide)))   (vss_nil))  (vss_nil))   (vss_cons (κ1 := [0, 0, 0, 0, 0, 0, 0, 0, 0, 0, 0]) (s := ifS (tstF (opF eqD [odE [] 0 (opF lenD [odS [0, 0, 0, 0, 0, 0, 0, 0, 0, 0, 0] 3]), odE [] 0 (cF (.int 1))])) (seqS (par3 8 9 10 (opF fdivD [odE [] 0 (opF ixD [odS [0, 0, 0, 0, 0, 0, 0, 0, 0, 0, 0] 3, odE [] 0 (cF (.int 0))]), odE [] 0 (cF (.int 2))]) (opF fdivD [odE [] 0 (opF ixD [odS [0, 0, 0, 0, 0, 0, 0, 0, 0, 0, 0] 4, odE [] 0 (cF (.int 0))]), odE [] 0 (cF (.int 2))]) (opF fdivD [odE [] 0 (opF ixD [odS [0, 0, 0, 0, 0, 0, 0, 0, 0, 0, 0] 4, odE [] 0 (cF (.int 1))]), odE [] 0 (cF (.int 2))])) (seqS (retS (opF mulD [odE [] 0 (callF [odE [] 0 (rd 8), odE [] 0 (rd 9), odE [] 0 (rd 10)] F_count_heaps), odE [] 0 (callF [odE [] 0 (opF addD [odS [0, 0, 0, 0, 0, 0, 0, 0, 0, 0, 0] 8, odE [] 0 (cF (.int 1))]), odE [] 0 (rd 9), odE [] 0 (rd 10)] F_count_heaps)])) (nilS))) (nilS))   (vs_if (T := []) (t := tstF (opF eqD [odE [] 0 (opF lenD [odS [0, 0, 0, 0, 0, 0, 0, 0, 0, 0, 0] 3]), odE [] 0 (cF (.int 1))])) (vt_cmp (op_eqA hu) (O_eq ) (vo_e (T := []) (k := 0) (f := opF lenD [odS [0, 0, 0, 0, 0, 0, 0, 0, 0, 0, 0] 3]) (ve_callB call_len (O_len (k := 0)) (by rfl) (by exact bn "len" (by decide)) vb_len (va_cons (xo 3) (va_nil) (by decide)))) (vo_e (T := []) (k := 0) (f := cF (.int 1)) (ve_int (k := 0))) (by decide))  (vss_cons (κ1 := [0, 0, 0, 0, 0, 0, 0, 0, 0, 0, 0]) (s := par3 8 9 10 (opF fdivD [odE [] 0 (opF ixD [odS [0, 0, 0, 0, 0, 0, 0, 0, 0, 0, 0] 3, odE [] 0 (cF (.int 0))]), odE [] 0 (cF (.int 2))]) (opF fdivD [odE [] 0 (opF ixD [odS [0, 0, 0, 0, 0, 0, 0, 0, 0, 0, 0] 4, odE [] 0 (cF (.int 0))]), odE [] 0 (cF (.int 2))]) (opF fdivD [odE [] 0 (opF ixD [odS [0, 0, 0, 0, 0, 0, 0, 0, 0, 0, 0] 4, odE [] 0 (cF (.int 1))]), odE [] 0 (cF (.int 2))]))   (vs_par3 (i := 8) (j := 9) (l := 10) (k1 := 0) (f := opF fdivD [odE [] 0 (opF ixD [odS [0, 0, 0, 0, 0, 0, 0, 0, 0, 0, 0] 3, odE [] 0 (cF (.int 0))]), odE [] 0 (cF (.int 2))]) (k2 := 0) (g := opF fdivD [odE [] 0 (opF ixD [odS [0, 0, 0, 0, 0, 0, 0, 0, 0, 0, 0] 4, odE [] 0 (cF (.int 0))]), odE [] 0 (cF (.int 2))]) (k3 := 0) (h := opF fdivD [odE [] 0 (opF ixD [odS [0, 0, 0, 0, 0, 0, 0, 0, 0, 0, 0] 4, odE [] 0 (cF (.int 1))]), odE [] 0 (cF (.int 2))]) (T := []) (U := []) (W := []) (by decide) (by decide) (by decide) (by decide) (by decide) (by decide) (by decide) (by decide) (by decide) rfl nd rfl rfl rfl rfl rfl rfl (ve_bin op_fdivA (O_fdiv (k := 0)) (vo_e (T := []) (k := 0) (f := opF ixD [odS [0, 0, 0, 0, 0, 0, 0, 0, 0, 0, 0] 3, odE [] 0 (cF (.int 0))]) (ve_ix ix_seq (O_ix (by decide)) (xo 3) (vo_e (T := []) (k := 0) (f := cF (.int 0)) (ve_int (k := 0))) (by decide))) (vo_e (T := []) (k := 0) (f := cF (.int 2)) (ve_int (k := 0))) (by decide)) (ve_bin op_fdivA (O_fdiv (k := 0)) (vo_e (T := []) (k := 0) (f := opF ixD [odS [0, 0, 0, 0, 0, 0, 0, 0, 0, 0, 0] 4, odE [] 0 (cF (.int 0))]) (ve_ix ix_seq (O_ix (by decide)) (xo 4) (vo_e (T := []) (k := 0) (f := cF (.int 0)) (ve_int (k := 0))) (by decide))) (vo_e (T := []) (k := 0) (f := cF (.int 2)) (ve_int (k := 0))) (by decide)) (ve_bin op_fdivA (O_fdiv (k := 0)) (vo_e (T := []) (k := 0) (f := opF ixD [odS [0, 0, 0, 0, 0, 0, 0, 0, 0, 0, 0] 4, odE [] 0 (cF (.int 1))]) (ve_ix ix_seq (O_ix (by decide)) (xo 4) (vo_e (T := []) (k := 0) (f := cF (.int 1)) (ve_int (k := 0))) (by decide))) (vo_e (T := []) (k := 0) (f := cF (.int 2)) (ve_int (k := 0))) (by decide)) rfl)   (vss_cons (κ1 := [0, 0, 0, 0, 0, 0, 0, 0, 0, 0, 0]) (s := retS (opF mulD [odE [] 0 (callF [odE [] 0 (rd 8), odE [] 0 (rd 9), odE [] 0 (rd 10)] F_count_heaps), odE [] 0 (callF [odE [] 0 (opF addD [odS [0, 0, 0, 0, 0, 0, 0, 0, 0, 0, 0] 8, odE [] 0 (cF (.int 1))]), odE [] 0 (rd 9), odE [] 0 (rd 10)] F_count_heaps)]))   (vs_ret (T := []) (f := opF mulD [odE [] 0 (callF [odE [] 0 (rd 8), odE [] 0 (rd 9), odE [] 0 (rd 10)] F_count_heaps), odE [] 0 (callF [odE [] 0 (opF addD [odS [0, 0, 0, 0, 0, 0, 0, 0, 0, 0, 0] 8, odE [] 0 (cF (.int 1))]), odE [] 0 (rd 9), odE [] 0 (rd 10)] F_count_heaps)]) (ve_bin op_mulA (O_mul (k := 0)) (vo_e (T := []) (k := 0) (f := callF [odE [] 0 (rd 8), odE [] 0 (rd 9), odE [] 0 (rd 10)] F_count_heaps) (ve_fn (k := 0) (fn := F_count_heaps) (C_count_heaps.mono (by decide)) hr (va_cons (vo_e (T := []) (k := 0) (f := rd 8) (xv 8)) (va_cons (vo_e (T := []) (k := 0) (f := rd 9) (xv 9)) (va_cons (vo_e (T := []) (k := 0) (f := rd 10) (xv 10)) (va_nil) (by decide)) (by decide)) (by decide)))) (vo_e (T := []) (k := 0) (f := callF [odE [] 0 (opF addD [odS [0, 0, 0, 0, 0, 0, 0, 0, 0, 0, 0] 8, odE [] 0 (cF (.int 1))]), odE [] 0 (rd 9), odE [] 0 (rd 10)] F_count_heaps) (ve_fn (k := 0) (fn := F_count_heaps) (C_count_heaps.mono (by decide)) hr (va_cons (vo_e (T := []) (k := 0) (f := opF addD [odS [0, 0, 0, 0, 0, 0, 0, 0, 0, 0, 0] 8, odE [] 0 (cF (.int 1))]) (ve_share (k := 1) (ve_bin op_addA (O_add (by decide) (by decide)) (xo 8) (vo_e (T := []) (k := 0) (f := cF (.int 1)) (ve_int (k := 0))) (by decide)))) (va_cons (vo_e (T := []) (k := 0) (f := rd 9) (xv 9)) (va_cons (vo_e (T := []) (k := 0) (f := rd 10) (xv 10)) (va_nil) (by decide)) (by decide)) (by decide)))) (by decide)))   (vss_nil)))  (vss_nil))   (vss_cons (κ1 := [0, 0, 0, 0, 0, 0, 0, 0, 0, 0, 0]) (s := par3 5 6 7 (opF fdivD [odE [] 0 (opF ixD [odS [0, 0, 0, 0, 0, 0, 0, 0, 0, 0, 0] 3, odE [] 0 (cF (.int 0))]), odE [] 0 (cF (.int 2))]) (opF fdivD [odE [] 0 (opF ixD [odS [0, 0, 0, 0, 0, 0, 0, 0, 0, 0, 0] 3, odE [] 0 (cF (.int 1))]), odE [] 0 (cF (.int 2))]) (opF fdivD [odE [] 0 (opF ixD [odS [0, 0, 0, 0, 0, 0, 0, 0, 0, 0, 0] 4, odE [] 0 (cF (.int 0))]), odE [] 0 (cF (.int 2))]))   (vs_par3 (i := 5) (j := 6) (l := 7) (k1 := 0) (f := opF fdivD [odE [] 0 (opF ixD [odS [0, 0, 0, 0, 0, 0, 0, 0, 0, 0, 0] 3, odE [] 0 (cF (.int 0))]), odE [] 0 (cF (.int 2))]) (k2 := 0) (g := opF fdivD [odE [] 0 (opF ixD [odS [0, 0, 0, 0, 0, 0, 0, 0, 0, 0, 0] 3, odE [] 0 (cF (.int 1))]), odE [] 0 (cF (.int 2))]) (k3 := 0) (h := opF fdivD [odE [] 0 (opF ixD [odS [0, 0, 0, 0, 0, 0, 0, 0, 0, 0, 0] 4, odE [] 0 (cF (.int 0))]), odE [] 0 (cF (.int 2))]) (T := []) (U := []) (W := []) (by decide) (by decide) (by decide) (by decide) (by decide) (by decide) (by decide) (by decide) (by decide) rfl nd rfl rfl rfl rfl rfl rfl (ve_bin op_fdivA (O_fdiv (k := 0)) (vo_e (T := []) (k := 0) (f := opF ixD [odS [0, 0, 0, 0, 0, 0, 0, 0, 0, 0, 0] 3, odE [] 0 (cF (.int 0))]) (ve_ix ix_seq (O_ix (by decide)) (xo 3) (vo_e (T := []) (k := 0) (f := cF (.int 0)) (ve_int (k := 0))) (by decide))) (vo_e (T := []) (k := 0) (f := cF (.int 2)) (ve_int (k := 0))) (by decide)) (ve_bin op_fdivA (O_fdiv (k := 0)) (vo_e (T := []) (k := 0) (f := opF ixD [odS [0, 0, 0, 0, 0, 0, 0, 0, 0, 0, 0] 3, odE [] 0 (cF (.int 1))]) (ve_ix ix_seq (O_ix (by decide)) (xo 3) (vo_e (T := []) (k := 0) (f := cF (.int 1)) (ve_int (k := 0))) (by decide))) (vo_e (T := []) (k := 0) (f := cF (.int 2)) (ve_int (k := 0))) (by decide)) (ve_bin op_fdivA (O_fdiv (k := 0)) (vo_e (T := []) (k := 0) (f := opF ixD [odS [0, 0, 0, 0, 0, 0, 0, 0, 0, 0, 0] 4, odE [] 0 (cF (.int 0))]) (ve_ix ix_seq (O_ix (by decide)) (xo 4) (vo_e (T := []) (k := 0) (f := cF (.int 0)) (ve_int (k := 0))) (by decide))) (vo_e (T := []) (k := 0) (f := cF (.int 2)) (ve_int (k := 0))) (by decide)) rfl)   (vss_cons (κ1 := [0, 0, 0, 0, 0, 0, 0, 0, 0, 0, 0]) (s := retS (opF mulD [odE [] 0 (callF [odE [] 0 (opF addD [odS [0, 0, 0, 0, 0, 0, 0, 0, 0, 0, 0] 5, odE [] 0 (cF (.int 1))]), odE [] 0 (rd 6), odE [] 0 (rd 7)] F_count_heaps), odE [] 0 (callF [odE [] 0 (rd 5), odE [] 0 (opF addD [odS [0, 0, 0, 0, 0, 0, 0, 0, 0, 0, 0] 6, odE [] 0 (cF (.int 1))]), odE [] 0 (rd 7)] F_count_heaps)]))   (vs_ret (T := []) (f := opF mulD [odE [] 0 (callF [odE [] 0 (opF addD [odS [0, 0, 0, 0, 0, 0, 0, 0, 0, 0, 0] 5, odE [] 0 (cF (.int 1))]), odE [] 0 (rd 6), odE [] 0 (rd 7)] F_count_heaps), odE [] 0 (callF [odE [] 0 (rd 5), odE [] 0 (opF addD [odS [0, 0, 0, 0, 0, 0, 0, 0, 0, 0, 0] 6, odE [] 0 (cF (.int 1))]), odE [] 0 (rd 7)] F_count_heaps)]) (ve_bin op_mulA (O_mul (k := 0)) (vo_e (T := []) (k := 0) (f := callF [odE [] 0 (opF addD [odS [0, 0, 0, 0, 0, 0, 0, 0, 0, 0, 0] 5, odE [] 0 (cF (.int 1))]), odE [] 0 (rd 6), odE [] 0 (rd 7)] F_count_heaps) (ve_fn (k := 0) (fn := F_count_heaps) (C_count_heaps.mono (by decide)) hr (va_cons (vo_e (T := []) (k := 0) (f := opF addD [odS [0, 0, 0, 0, 0, 0, 0, 0, 0, 0, 0] 5, odE [] 0 (cF (.int 1))]) (ve_share (k := 1) (ve_bin op_addA (O_add (by decide) (by decide)) (xo 5) (vo_e (T := []) (k := 0) (f := cF (.int 1)) (ve_int (k := 0))) (by decide)))) (va_cons (vo_e (T := []) (k := 0) (f := rd 6) (xv 6)) (va_cons (vo_e (T := []) (k := 0) (f := rd 7) (xv 7)) (va_nil) (by decide)) (by decide)) (by decide)))) (vo_e (T := []) (k := 0) (f := callF [odE [] 0 (rd 5), odE [] 0 (opF addD [odS [0, 0, 0, 0, 0, 0, 0, 0, 0, 0, 0] 6, odE [] 0 (cF (.int 1))]), odE [] 0 (rd 7)] F_count_heaps) (ve_fn (k := 0) (fn := F_count_heaps) (C_count_heaps.mono (by decide)) hr (va_cons (vo_e (T := []) (k := 0) (f := rd 5) (xv 5)) (va_cons (vo_e (T := []) (k := 0) (f := opF addD [odS [0, 0, 0, 0, 0, 0, 0, 0, 0, 0, 0] 6, odE [] 0 (cF (.int 1))]) (ve_share (k := 1) (ve_bin op_addA (O_add (by decide) (by decide)) (xo 6) (vo_e (T := []) (k := 0) (f := cF (.int 1)) (ve_int (k := 0))) (by decide)))) (va_cons (vo_e (T := []) (k := 0) (f := rd 7) (xv 7)) (va_nil) (by decide)) (by decide)) (by decide)))) (by decide)))   (vss_nil)))))))))
  exact ⟨fa, fd, _, h, hm, F.kp, hb⟩
abbrev s_count_crossed : Stmt := topS 22
abbrev N_count_crossed : List Str := ["a", "c", "half", "above", "below", "x", "y"]
theorem sc_count_crossed : FnScope N_count_crossed ["a", "c"] (defScope s_count_crossed) := ⟨rfl, rfl, rfl, by decide +kernel, rfl, by decide +kernel, by decide +kernel⟩
def S_count_crossed : SemS := seqS (setS 2 (opF fdivD [odS [0, 0, 0, 0, 0, 0, 0] 1, odE [] 0 (cF (.int 2))])) (seqS (par2 3 4 (callF [odE [] 0 (opF subD [odE [] 1 (opF addD [odS [0, 0, 0, 0, 0, 0, 0] 2, odS [0, 0, 0, 0, 0, 0, 0] 0]), odE [] 0 (cF (.int 1))]), odE [] 0 (opF subD [odS [0, 0, 0, 0, 0, 0, 0] 0, odE [] 0 (cF (.int 1))])] F_choose) (cF (.int 1))) (seqS (forS (rng2 [odE [] 0 (cF (.int 1)), odE [] 0 (opF subD [odS [0, 0, 0, 0, 0, 0, 0] 0, odE [] 0 (cF (.int 1))])]) (tgN 5) (seqS (forS (rng2 [odS [0, 0, 0, 0, 0, 0, 0] 5, odE [] 0 (opF subD [odS [0, 0, 0, 0, 0, 0, 0] 0, odE [] 0 (cF (.int 1))])]) (tgN 6) (seqS (setS 3 (opF mulD [odS [0, 0, 0, 0, 0, 0, 0] 3, odE [] 1 (opF addD [odE [] 1 (opF addD [odE [] 1 (opF addD [odS [0, 0, 0, 0, 0, 0, 0] 1, odS [0, 0, 0, 0, 0, 0, 0] 5]), odS [0, 0, 0, 0, 0, 0, 0] 6]), odE [] 0 (cF (.int 1))])])) (seqS (setS 4 (opF mulD [odS [0, 0, 0, 0, 0, 0, 0] 4, odE [] 1 (opF addD [odE [] 1 (opF addD [odS [0, 0, 0, 0, 0, 0, 0] 5, odS [0, 0, 0, 0, 0, 0, 0] 6]), odE [] 0 (cF (.int 1))])])) (nilS)))) (nilS))) (seqS (retS (opF fdivD [odS [0, 0, 0, 0, 0, 0, 0] 3, odS [0, 0, 0, 0, 0, 0, 0] 4])) (nilS))))
def F_count_crossed : Sem0 := fnF [] N_count_crossed.length S_count_crossed
theorem ok_count_crossed {P : Program} {w : World} {K : PySem.W.Frag} {mg : Str → Option Value} {base : Heap} {fa : Addr} {fd : FuncData} (F : Fun K "count_crossed" "count_crossed" s_count_crossed fa fd) (hm : mg "count_crossed" = some (.ref fa)) (hb : Binds K fd ["a", "c"] []) (bn : ∀ x, x ∈ bnames → mg x = none) (C_choose : CalD P w K mg base 1 "choose" (spD ⟨K, P, w⟩ [] [0, 0] 0 F_choose)) : CalD P w K mg base 2 "count_crossed" (spD ⟨K, P, w⟩ [] [0, 0] 0 F_count_crossed) := by
  have h : FnOk P w K mg base CX0 2 fa fd ["a", "c"] (spD ⟨K, P, w⟩ [] [0, 0] 0 (fnF [] N_count_crossed.length S_count_crossed)) := by
    refine fn_ok (lv := 1) (N := N_count_crossed) (κ' := [0, 0, 0, 0, 0, 0, 0]) (κp := [0, 0]) (κl := [0, 0, 0, 0, 0]) (Φ := []) (s := S_count_crossed) F sc_count_crossed rfl rfl (zero_out (by decide)) (fun cdv A outer s0 H E hr => ?_)
    have hu := hr.units
    have nd := sc_count_crossed.nd
    exact vss_cons (κ1 := [0, 0, 0, 0, 0, 0, 0]) (s := setS 2 (opF fdivD [odS [0, 0, 0, 0, 0, 0, 0] 1, odE [] 0 (cF (.int 2))]))   (vs_set (i := 2) (T := []) (j := 0) (f := opF fdivD [odS [0, 0, 0, 0, 0, 0, 0] 1, odE [] 0 (cF (.int 2))]) (by decide) (by decide) nd rfl (by first | exact Or.inl rfl | exact Or.inr rfl) (ve_bin op_fdivA (O_fdiv (k := 0)) (xo 1) (vo_e (T := []) (k := 0) (f := cF (.int 2)) (ve_int (k := 0))) (by decide)))   (vss_cons (κ1 := [0, 0, 0, 0, 0, 0, 0]) (s := par2 3 4 (callF [odE [] 0 (opF subD [odE [] 1 (opF addD [odS [0, 0, 0, 0, 0, 0, 0] 2, odS [0, 0, 0, 0, 0, 0, 0] 0]), odE [] 0 (cF (.int 1))]), odE [] 0 (opF subD [odS [0, 0, 0, 0, 0, 0, 0] 0, odE [] 0 (cF (.int 1))])] F_choose) (cF (.int 1)))   (vs_par (i := 3) (j := 4) (k1 := 0) (f := callF [odE [] 0 (opF subD [odE [] 1 (opF addD [odS [0, 0, 0, 0, 0, 0, 0] 2, odS [0, 0, 0, 0, 0, 0, 0] 0]), odE [] 0 (cF (.int 1))]), odE [] 0 (opF subD [odS [0, 0, 0, 0, 0, 0, 0] 0, odE [] 0 (cF (.int 1))])] F_choose) (k2 := 0) (g := cF (.int 1)) (T := []) (U := []) (by decide) (by decide) (by decide) (by decide) (by decide) rfl nd rfl rfl rfl rfl (ve_fn (k := 0) (fn := F_choose) (C_choose.mono (by decide)) hr (va_cons (vo_e (T := []) (k := 0) (f := opF subD [odE [] 1 (opF addD [odS [0, 0, 0, 0, 0, 0, 0] 2, odS [0, 0, 0, 0, 0, 0, 0] 0]), odE [] 0 (cF (.int 1))]) (ve_bin op_sub (O_sub (k := 0)) (vo_e (T := []) (k := 1) (f := opF addD [odS [0, 0, 0, 0, 0, 0, 0] 2, odS [0, 0, 0, 0, 0, 0, 0] 0]) (ve_bin op_addA (O_add (by decide) (by decide)) (xo 2) (xo 0) (by decide))) (vo_e (T := []) (k := 0) (f := cF (.int 1)) (ve_int (k := 0))) (by decide))) (va_cons (vo_e (T := []) (k := 0) (f := opF subD [odS [0, 0, 0, 0, 0, 0, 0] 0, odE [] 0 (cF (.int 1))]) (ve_bin op_sub (O_sub (k := 0)) (xo 0) (vo_e (T := []) (k := 0) (f := cF (.int 1)) (ve_int (k := 0))) (by decide))) (va_nil) (by decide)) (by decide))) (ve_int (k := 0)) rfl)   (vss_cons (κ1 := [0, 0, 0, 0, 0, 0, 0]) (s := forS (rng2 [odE [] 0 (cF (.int 1)), odE [] 0 (opF subD [odS [0, 0, 0, 0, 0, 0, 0] 0, odE [] 0 (cF (.int 1))])]) (tgN 5) (seqS (forS (rng2 [odS [0, 0, 0, 0, 0, 0, 0] 5, odE [] 0 (opF subD [odS [0, 0, 0, 0, 0, 0, 0] 0, odE [] 0 (cF (.int 1))])]) (tgN 6) (seqS (setS 3 (opF mulD [odS [0, 0, 0, 0, 0, 0, 0] 3, odE [] 1 (opF addD [odE [] 1 (opF addD [odE [] 1 (opF addD [odS [0, 0, 0, 0, 0, 0, 0] 1, odS [0, 0, 0, 0, 0, 0, 0] 5]), odS [0, 0, 0, 0, 0, 0, 0] 6]), odE [] 0 (cF (.int 1))])])) (seqS (setS 4 (opF mulD [odS [0, 0, 0, 0, 0, 0, 0] 4, odE [] 1 (opF addD [odE [] 1 (opF addD [odS [0, 0, 0, 0, 0, 0, 0] 5, odS [0, 0, 0, 0, 0, 0, 0] 6]), odE [] 0 (cF (.int 1))])])) (nilS)))) (nilS)))   (vs_for (T := []) (f := rng2 [odE [] 0 (cF (.int 1)), odE [] 0 (opF subD [odS [0, 0, 0, 0, 0, 0, 0] 0, odE [] 0 (cF (.int 1))])]) (m := tgN 5) PassesOwn.never rfl (vi_rng2 (by rfl) (by exact bn "range" (by decide)) (va_cons (vo_e (T := []) (k := 0) (f := cF (.int 1)) (ve_int (k := 0))) (va_cons (vo_e (T := []) (k := 0) (f := opF subD [odS [0, 0, 0, 0, 0, 0, 0] 0, odE [] 0 (cF (.int 1))]) (ve_bin op_sub (O_sub (k := 0)) (xo 0) (vo_e (T := []) (k := 0) (f := cF (.int 1)) (ve_int (k := 0))) (by decide))) (va_nil) (by decide)) (by decide))) (vg_name (i := 5) (κ' := [0, 0, 0, 0, 0, 0, 0]) (by decide) (by decide) rfl nd rfl (by first | exact Or.inl rfl | exact Or.inr rfl))  (vss_cons (κ1 := [0, 0, 0, 0, 0, 0, 0]) (s := forS (rng2 [odS [0, 0, 0, 0, 0, 0, 0] 5, odE [] 0 (opF subD [odS [0, 0, 0, 0, 0, 0, 0] 0, odE [] 0 (cF (.int 1))])]) (tgN 6) (seqS (setS 3 (opF mulD [odS [0, 0, 0, 0, 0, 0, 0] 3, odE [] 1 (opF addD [odE [] 1 (opF addD [odE [] 1 (opF addD [odS [0, 0, 0, 0, 0, 0, 0] 1, odS [0, 0, 0, 0, 0, 0, 0] 5]), odS [0, 0, 0, 0, 0, 0, 0] 6]), odE [] 0 (cF (.int 1))])])) (seqS (setS 4 (opF mulD [odS [0, 0, 0, 0, 0, 0, 0] 4, odE [] 1 (opF addD [odE [] 1 (opF addD [odS [0, 0, 0, 0, 0, 0, 0] 5, odS [0, 0, 0, 0, 0, 0, 0] 6]), odE [] 0 (cF (.int 1))])])) (nilS))))   (vs_for (T := []) (f := rng2 [odS [0, 0, 0, 0, 0, 0, 0] 5, odE [] 0 (opF subD [odS [0, 0, 0, 0, 0, 0, 0] 0, odE [] 0 (cF (.int 1))])]) (m := tgN 6) PassesOwn.never rfl (vi_rng2 (by rfl) (by exact bn "range" (by decide)) (va_cons (xo 5) (va_cons (vo_e (T := []) (k := 0) (f := opF subD [odS [0, 0, 0, 0, 0, 0, 0] 0, odE [] 0 (cF (.int 1))]) (ve_bin op_sub (O_sub (k := 0)) (xo 0) (vo_e (T := []) (k := 0) (f := cF (.int 1)) (ve_int (k := 0))) (by decide))) (va_nil) (by decide)) (by decide))) (vg_name (i := 6) (κ' := [0, 0, 0, 0, 0, 0, 0]) (by decide) (by decide) rfl nd rfl (by first | exact Or.inl rfl | exact Or.inr rfl))  (vss_cons (κ1 := [0, 0, 0, 0, 0, 0, 0]) (s := setS 3 (opF mulD [odS [0, 0, 0, 0, 0, 0, 0] 3, odE [] 1 (opF addD [odE [] 1 (opF addD [odE [] 1 (opF addD [odS [0, 0, 0, 0, 0, 0, 0] 1, odS [0, 0, 0, 0, 0, 0, 0] 5]), odS [0, 0, 0, 0, 0, 0, 0] 6]), odE [] 0 (cF (.int 1))])]))   (vs_set (i := 3) (T := []) (j := 0) (f := opF mulD [odS [0, 0, 0, 0, 0, 0, 0] 3, odE [] 1 (opF addD [odE [] 1 (opF addD [odE [] 1 (opF addD [odS [0, 0, 0, 0, 0, 0, 0] 1, odS [0, 0, 0, 0, 0, 0, 0] 5]), odS [0, 0, 0, 0, 0, 0, 0] 6]), odE [] 0 (cF (.int 1))])]) (by decide) (by decide) nd rfl (by first | exact Or.inl rfl | exact Or.inr rfl) (ve_bin op_mulA (O_mul (k := 0)) (xo 3) (vo_e (T := []) (k := 1) (f := opF addD [odE [] 1 (opF addD [odE [] 1 (opF addD [odS [0, 0, 0, 0, 0, 0, 0] 1, odS [0, 0, 0, 0, 0, 0, 0] 5]), odS [0, 0, 0, 0, 0, 0, 0] 6]), odE [] 0 (cF (.int 1))]) (ve_bin op_addA (O_add (by decide) (by decide)) (vo_e (T := []) (k := 1) (f := opF addD [odE [] 1 (opF addD [odS [0, 0, 0, 0, 0, 0, 0] 1, odS [0, 0, 0, 0, 0, 0, 0] 5]), odS [0, 0, 0, 0, 0, 0, 0] 6]) (ve_bin op_addA (O_add (by decide) (by decide)) (vo_e (T := []) (k := 1) (f := opF addD [odS [0, 0, 0, 0, 0, 0, 0] 1, odS [0, 0, 0, 0, 0, 0, 0] 5]) (ve_bin op_addA (O_add (by decide) (by decide)) (xo 1) (xo 5) (by decide))) (xo 6) (by decide))) (vo_e (T := []) (k := 0) (f := cF (.int 1)) (ve_int (k := 0))) (by decide))) (by decide)))   (vss_cons (κ1 := [0, 0, 0, 0, 0, 0, 0]) (s := setS 4 (opF mulD [odS [0, 0, 0, 0, 0, 0, 0] 4, odE [] 1 (opF addD [odE [] 1 (opF addD [odS [0, 0, 0, 0, 0, 0, 0] 5, odS [0, 0, 0, 0, 0, 0, 0] 6]), odE [] 0 (cF (.int 1))])]))   (vs_set (i := 4) (T := []) (j := 0) (f := opF mulD [odS [0, 0, 0, 0, 0, 0, 0] 4, odE [] 1 (opF addD [odE [] 1 (opF addD [odS [0, 0, 0, 0, 0, 0, 0] 5, odS [0, 0, 0, 0, 0, 0, 0] 6]), odE [] 0 (cF (.int 1))])]) (by decide) (by decide) nd rfl (by first | exact Or.inl rfl | exact Or.inr rfl) (ve_bin op_mulA (O_mul (k := 0)) (xo 4) (vo_e (T := []) (k := 1) (f := opF addD [odE [] 1 (opF addD [odS [0, 0, 0, 0, 0, 0, 0] 5, odS [0, 0, 0, 0, 0, 0, 0] 6]), odE [] 0 (cF (.int 1))]) (ve_bin op_addA (O_add (by decide) (by decide)) (vo_e (T := []) (k := 1) (f := opF addD [odS [0, 0, 0, 0, 0, 0, 0] 5, odS [0, 0, 0, 0, 0, 0, 0] 6]) (ve_bin op_addA (O_add (by decide) (by decide)) (xo 5) (xo 6) (by decide))) (vo_e (T := []) (k := 0) (f := cF (.int 1)) (ve_int (k := 0))) (by decide))) (by decide)))   (vss_nil))))   (vss_nil)))   (vss_cons (κ1 := [0, 0, 0, 0, 0, 0, 0]) (s := retS (opF fdivD [odS [0, 0, 0, 0, 0, 0, 0] 3, odS [0, 0, 0, 0, 0, 0, 0] 4]))   (vs_ret (T := []) (f := opF fdivD [odS [0, 0, 0, 0, 0, 0, 0] 3, odS [0, 0, 0, 0, 0, 0, 0] 4]) (ve_bin op_fdivA (O_fdiv (k := 0)) (xo 3) (xo 4) (by decide)))   (vss_nil))))
  exact ⟨fa, fd, _, h, hm, F.kp, hb⟩
abbrev s_those_swapped : Stmt := topS 23
abbrev N_those_swapped : List Str := ["a", "c", "rows"]
theorem sc_those_swapped : FnScope N_those_swapped ["a", "c"] (defScope s_those_swapped) := ⟨rfl, rfl, rfl, by decide +kernel, rfl, by decide +kernel, by decide +kernel⟩
def S_those_swapped : SemS := seqS (retS (lcF (clF (seqSrc (callF [odE [] 0 (rd 0), odE [] 0 (rd 0), odE [] 0 (rd 1)] F_heaps)) [2] (tgN 2) (truO (odE [] 0 (callF [odE [] 0 (rd 2)] F_is_swapped))) (oneF (rd 2))))) (nilS)
def F_those_swapped : Sem0 := fnF [] N_those_swapped.length S_those_swapped
theorem ok_those_swapped {P : Program} {w : World} {K : PySem.W.Frag} {mg : Str → Option Value} {base : Heap} {fa : Addr} {fd : FuncData} (F : Fun K "those_swapped" "those_swapped" s_those_swapped fa fd) (hm : mg "those_swapped" = some (.ref fa)) (hb : Binds K fd ["a", "c"] []) (C_heaps : CalD P w K mg base 2 "heaps" (spD ⟨K, P, w⟩ [] [0, 0, 0] 0 F_heaps)) (C_is_swapped : CalD P w K mg base 2 "is_swapped" (spD ⟨K, P, w⟩ [] [0] 0 F_is_swapped)) : CalD P w K mg base 3 "those_swapped" (spD ⟨K, P, w⟩ [] [0, 0] 0 F_those_swapped) := by
  have h : FnOk P w K mg base CX0 3 fa fd ["a", "c"] (spD ⟨K, P, w⟩ [] [0, 0] 0 (fnF [] N_those_swapped.length S_those_swapped)) := by
    refine fn_ok (lv := 2) (N := N_those_swapped) (κ' := [0, 0, 0]) (κp := [0, 0]) (κl := [0]) (Φ := []) (s := S_those_swapped) F sc_those_swapped rfl rfl (zero_out (by decide)) (fun cdv A outer s0 H E hr => ?_)
    have hu := hr.units
    have nd := sc_those_swapped.nd
    exact vss_cons (κ1 := [0, 0, 0]) (s := retS (lcF (clF (seqSrc (callF [odE [] 0 (rd 0), odE [] 0 (rd 0), odE [] 0 (rd 1)] F_heaps)) [2] (tgN 2) (truO (odE [] 0 (callF [odE [] 0 (rd 2)] F_is_swapped))) (oneF (rd 2)))))   (vs_ret (T := []) (f := lcF (clF (seqSrc (callF [odE [] 0 (rd 0), odE [] 0 (rd 0), odE [] 0 (rd 1)] F_heaps)) [2] (tgN 2) (truO (odE [] 0 (callF [odE [] 0 (rd 2)] F_is_swapped))) (oneF (rd 2)))) (ve_share (k := 1) (ve_lc (κ := [0, 0, 0]) (T0 := []) (T1 := []) (T2 := []) (k := 0) (Φc := [0, 1]) [] [("rows", 2)] (by decide) (by decide) (by decide) (by decide) (by decide) (by decide) rfl nd (vi_seq (ve_fn (k := 0) (fn := F_heaps) (C_heaps.mono (by decide)) hr (va_cons (vo_e (T := []) (k := 0) (f := rd 0) (xv 0)) (va_cons (vo_e (T := []) (k := 0) (f := rd 0) (xv 0)) (va_cons (vo_e (T := []) (k := 0) (f := rd 1) (xv 1)) (va_nil) (by decide)) (by decide)) (by decide)))) (blkOk_by (by kernel_rfl)) (fun s0 H0 C0 cl0 fp0 => vg_name (i := 2) (κ' := [0, 0, 0]) (by decide) (by decide) rfl nd rfl (by first | exact Or.inl rfl | exact Or.inr rfl)) (fun s0 H0 C0 cl0 fp0 => vts_one (vt_tru (vo_e (T := []) (k := 0) (f := callF [odE [] 0 (rd 2)] F_is_swapped) (ve_fn (k := 0) (fn := F_is_swapped) (C_is_swapped.mono (by decide)) hr (va_cons (vo_e (T := []) (k := 0) (f := rd 2) (xv 2)) (va_nil) (by decide)))))) (fun s0 H0 C0 cl0 fp0 => xv 2))))   (vss_nil)
  exact ⟨fa, fd, _, h, hm, F.kp, hb⟩
abbrev s_lots_moved : Stmt := topS 24
abbrev N_lots_moved : List Str := ["rows", "c", "told", "at", "other"]
theorem sc_lots_moved : FnScope N_lots_moved ["rows", "c"] (defScope s_lots_moved) := ⟨rfl, rfl, rfl, by decide +kernel, rfl, by decide +kernel, by decide +kernel⟩
def S_lots_moved : SemS := seqS (setS 2 (opF lstD [odE [] 0 (rd 0)])) (seqS (setS 3 (cF (.int 0))) (seqS (whileS (tstF (opF ltD [odS [0, 0, 1, 0, 0] 3, odE [] 0 (opF lenD [odS [0, 0, 1, 0, 0] 2])])) (seqS (forS (seqSrc (opF tupD [odE [] 0 (callF [odE [] 0 (opF ixD [odS [0, 0, 1, 0, 0] 2, odS [0, 0, 1, 0, 0] 3])] F_swapped), odE [] 0 (callF [odE [] 0 (opF ixD [odS [0, 0, 1, 0, 0] 2, odS [0, 0, 1, 0, 0] 3]), odE [] 0 (rd 1)] F_rolled)])) (tgN 4) (seqS (ifS (tstF (opF (inD true) [odS [0, 0, 1, 0, 0] 4, odS [0, 0, 1, 0, 0] 2])) (seqS (dropS (appF 2 (rd 4))) (nilS)) (nilS)) (nilS))) (seqS (setS 3 (opF addD [odS [0, 0, 1, 0, 0] 3, odE [] 0 (cF (.int 1))])) (nilS))) 100000) (seqS (retS (opF (sortedD false) [odS [0, 0, 1, 0, 0] 2])) (nilS))))
def F_lots_moved : Sem0 := fnF [] N_lots_moved.length S_lots_moved
theorem ok_lots_moved {P : Program} {w : World} {K : PySem.W.Frag} {mg : Str → Option Value} {base : Heap} {fa : Addr} {fd : FuncData} (F : Fun K "lots_moved" "lots_moved" s_lots_moved fa fd) (hm : mg "lots_moved" = some (.ref fa)) (hb : Binds K fd ["rows", "c"] []) (bn : ∀ x, x ∈ bnames → mg x = none) (C_swapped : CalD P w K mg base 1 "swapped" (spD ⟨K, P, w⟩ [] [0] 0 F_swapped)) (C_rolled : CalD P w K mg base 2 "rolled" (spD ⟨K, P, w⟩ [] [0, 0] 0 F_rolled)) : CalD P w K mg base 3 "lots_moved" (spD ⟨K, P, w⟩ [] [0, 0] 0 F_lots_moved) := by
  have h : FnOk P w K mg base CX0 3 fa fd ["rows", "c"] (spD ⟨K, P, w⟩ [] [0, 0] 0 (fnF [] N_lots_moved.length S_lots_moved)) := by
    refine fn_ok (lv := 2) (N := N_lots_moved) (κ' := [0, 0, 1, 0, 0]) (κp := [0, 0]) (κl := [0, 0, 0]) (Φ := []) (s := S_lots_moved) F sc_lots_moved rfl rfl (zero_out (by decide)) (fun cdv A outer s0 H E hr => ?_)
    have hu := hr.units
    have nd := sc_lots_moved.nd
    exact vss_cons (κ1 := [0, 0, 1, 0, 0]) (s := setS 2 (opF lstD [odE [] 0 (rd 0)]))   (vs_set (i := 2) (T := []) (j := 1) (f := opF lstD [odE [] 0 (rd 0)]) (by decide) (by decide) nd rfl (by first | exact Or.inl rfl | exact Or.inr rfl) (ve_lst (O_lst (by decide)) (va_cons (vo_e (T := []) (k := 0) (f := rd 0) (xv 0)) (va_nil) (by decide))))   (vss_cons (κ1 := [0, 0, 1, 0, 0]) (s := setS 3 (cF (.int 0)))   (vs_set (i := 3) (T := []) (j := 0) (f := cF (.int 0)) (by decide) (by decide) nd rfl (by first | exact Or.inl rfl | exact Or.inr rfl) (ve_int (k := 0)))   (vss_cons (κ1 := [0, 0, 1, 0, 0]) (s := whileS (tstF (opF ltD [odS [0, 0, 1, 0, 0] 3, odE [] 0 (opF lenD [odS [0, 0, 1, 0, 0] 2])])) (seqS (forS (seqSrc (opF tupD [odE [] 0 (callF [odE [] 0 (opF ixD [odS [0, 0, 1, 0, 0] 2, odS [0, 0, 1, 0, 0] 3])] F_swapped), odE [] 0 (callF [odE [] 0 (opF ixD [odS [0, 0, 1, 0, 0] 2, odS [0, 0, 1, 0, 0] 3]), odE [] 0 (rd 1)] F_rolled)])) (tgN 4) (seqS (ifS (tstF (opF (inD true) [odS [0, 0, 1, 0, 0] 4, odS [0, 0, 1, 0, 0] 2])) (seqS (dropS (appF 2 (rd 4))) (nilS)) (nilS)) (nilS))) (seqS (setS 3 (opF addD [odS [0, 0, 1, 0, 0] 3, odE [] 0 (cF (.int 1))])) (nilS))) 100000)   (vs_while (T := []) (t := tstF (opF ltD [odS [0, 0, 1, 0, 0] 3, odE [] 0 (opF lenD [odS [0, 0, 1, 0, 0] 2])])) 100000 PassesOwn.never (vt_cmp op_lt (O_lt ) (xo 3) (vo_e (T := []) (k := 0) (f := opF lenD [odS [0, 0, 1, 0, 0] 2]) (ve_callB call_len (O_len (k := 0)) (by rfl) (by exact bn "len" (by decide)) vb_len (va_cons (xo 2) (va_nil) (by decide)))) (by decide))  (vss_cons (κ1 := [0, 0, 1, 0, 0]) (s := forS (seqSrc (opF tupD [odE [] 0 (callF [odE [] 0 (opF ixD [odS [0, 0, 1, 0, 0] 2, odS [0, 0, 1, 0, 0] 3])] F_swapped), odE [] 0 (callF [odE [] 0 (opF ixD [odS [0, 0, 1, 0, 0] 2, odS [0, 0, 1, 0, 0] 3]), odE [] 0 (rd 1)] F_rolled)])) (tgN 4) (seqS (ifS (tstF (opF (inD true) [odS [0, 0, 1, 0, 0] 4, odS [0, 0, 1, 0, 0] 2])) (seqS (dropS (appF 2 (rd 4))) (nilS)) (nilS)) (nilS)))   (vs_for (T := []) (f := seqSrc (opF tupD [odE [] 0 (callF [odE [] 0 (opF ixD [odS [0, 0, 1, 0, 0] 2, odS [0, 0, 1, 0, 0] 3])] F_swapped), odE [] 0 (callF [odE [] 0 (opF ixD [odS [0, 0, 1, 0, 0] 2, odS [0, 0, 1, 0, 0] 3]), odE [] 0 (rd 1)] F_rolled)])) (m := tgN 4) PassesOwn.never rfl (vi_seq (ve_tup (O_tup (k := 0) (by decide)) (va_cons (vo_e (T := []) (k := 0) (f := callF [odE [] 0 (opF ixD [odS [0, 0, 1, 0, 0] 2, odS [0, 0, 1, 0, 0] 3])] F_swapped) (ve_fn (k := 0) (fn := F_swapped) (C_swapped.mono (by decide)) hr (va_cons (vo_e (T := []) (k := 0) (f := opF ixD [odS [0, 0, 1, 0, 0] 2, odS [0, 0, 1, 0, 0] 3]) (ve_ix ix_seq (O_ix (by decide)) (xo 2) (xo 3) (by decide))) (va_nil) (by decide)))) (va_cons (vo_e (T := []) (k := 0) (f := callF [odE [] 0 (opF ixD [odS [0, 0, 1, 0, 0] 2, odS [0, 0, 1, 0, 0] 3]), odE [] 0 (rd 1)] F_rolled) (ve_fn (k := 0) (fn := F_rolled) (C_rolled.mono (by decide)) hr (va_cons (vo_e (T := []) (k := 0) (f := opF ixD [odS [0, 0, 1, 0, 0] 2, odS [0, 0, 1, 0, 0] 3]) (ve_ix ix_seq (O_ix (by decide)) (xo 2) (xo 3) (by decide))) (va_cons (vo_e (T := []) (k := 0) (f := rd 1) (xv 1)) (va_nil) (by decide)) (by decide)))) (va_nil) (by decide)) (by decide)))) (vg_name (i := 4) (κ' := [0, 0, 1, 0, 0]) (by decide) (by decide) rfl nd rfl (by first | exact Or.inl rfl | exact Or.inr rfl))  (vss_cons (κ1 := [0, 0, 1, 0, 0]) (s := ifS (tstF (opF (inD true) [odS [0, 0, 1, 0, 0] 4, odS [0, 0, 1, 0, 0] 2])) (seqS (dropS (appF 2 (rd 4))) (nilS)) (nilS))   (vs_if (T := []) (t := tstF (opF (inD true) [odS [0, 0, 1, 0, 0] 4, odS [0, 0, 1, 0, 0] 2])) (vt_cmp (op_notInA hu) (O_in ) (xo 4) (xo 2) (by decide))  (vss_cons (κ1 := [0, 0, 1, 0, 0]) (s := dropS (appF 2 (rd 4)))   (vs_expr (T := [2]) (j := 0) (f := appF 2 (rd 4)) (ve_append (i := 2) (k := 0) (by decide) (by decide) rfl (by first | exact Or.inl rfl | exact Or.inr (Or.inl rfl) | exact Or.inr (Or.inr rfl)) (xv 4)))   (vss_nil))  (vss_nil))   (vss_nil)))   (vss_cons (κ1 := [0, 0, 1, 0, 0]) (s := setS 3 (opF addD [odS [0, 0, 1, 0, 0] 3, odE [] 0 (cF (.int 1))]))   (vs_set (i := 3) (T := []) (j := 0) (f := opF addD [odS [0, 0, 1, 0, 0] 3, odE [] 0 (cF (.int 1))]) (by decide) (by decide) nd rfl (by first | exact Or.inl rfl | exact Or.inr rfl) (ve_share (k := 1) (ve_bin op_addA (O_add (by decide) (by decide)) (xo 3) (vo_e (T := []) (k := 0) (f := cF (.int 1)) (ve_int (k := 0))) (by decide))))   (vss_nil))))   (vss_cons (κ1 := [0, 0, 1, 0, 0]) (s := retS (opF (sortedD false) [odS [0, 0, 1, 0, 0] 2]))   (vs_ret (T := []) (f := opF (sortedD false) [odS [0, 0, 1, 0, 0] 2]) (ve_share (k := 1) (ve_callB (cr_sortA hu) (O_sorted (by decide)) (by rfl) (by exact bn "sorted" (by decide)) vb_sorted (va_cons (xo 2) (va_nil) (by decide)))))   (vss_nil))))
  exact ⟨fa, fd, _, h, hm, F.kp, hb⟩
abbrev s_count_lots : Stmt := topS 25
abbrev N_count_lots : List Str := ["n", "turned"]
theorem sc_count_lots : FnScope N_count_lots ["n"] (defScope s_count_lots) := ⟨rfl, rfl, rfl, by decide +kernel, rfl, by decide +kernel, by decide +kernel⟩
def S_count_lots : SemS := seqS (setS 1 (callF [odE [] 0 (rd 0)] F_count_rolled)) (seqS (retS (opF fdivD [odE [] 1 (opF addD [odE [] 1 (opF addD [odE [] 0 (callF [odE [] 0 (rd 0), odE [] 0 (rd 0), odE [] 0 (rd 0)] F_count_heaps), odE [] 0 (opF mulD [odE [] 0 (cF (.int 3)), odE [] 0 (callF [odE [] 0 (rd 0), odE [] 0 (rd 0)] F_count_swapped)])]), odE [] 0 (opF mulD [odE [] 0 (cF (.int 2)), odS [0, 0] 1])]), odE [] 0 (cF (.int 6))])) (nilS))
def F_count_lots : Sem0 := fnF [] N_count_lots.length S_count_lots
theorem ok_count_lots {P : Program} {w : World} {K : PySem.W.Frag} {mg : Str → Option Value} {base : Heap} {fa : Addr} {fd : FuncData} (F : Fun K "count_lots" "count_lots" s_count_lots fa fd) (hm : mg "count_lots" = some (.ref fa)) (hb : Binds K fd ["n"] []) (C_count_rolled : CalD P w K mg base 1 "count_rolled" (spD ⟨K, P, w⟩ [] [0] 0 F_count_rolled)) (C_count_heaps : CalD P w K mg base 1 "count_heaps" (spD ⟨K, P, w⟩ [] [0, 0, 0] 0 F_count_heaps)) (C_count_swapped : CalD P w K mg base 1 "count_swapped" (spD ⟨K, P, w⟩ [] [0, 0] 0 F_count_swapped)) : CalD P w K mg base 2 "count_lots" (spD ⟨K, P, w⟩ [] [0] 0 F_count_lots) := by
  have h : FnOk P w K mg base CX0 2 fa fd ["n"] (spD ⟨K, P, w⟩ [] [0] 0 (fnF [] N_count_lots.length S_count_lots)) := by
    refine fn_ok (lv := 1) (N := N_count_lots) (κ' := [0, 0]) (κp := [0]) (κl := [0]) (Φ := []) (s := S_count_lots) F sc_count_lots rfl rfl (zero_out (by decide)) (fun cdv A outer s0 H E hr => ?_)
    have hu := hr.units
    have nd := sc_count_lots.nd
    exact vss_cons (κ1 := [0, 0]) (s := setS 1 (callF [odE [] 0 (rd 0)] F_count_rolled))   (vs_set (i := 1) (T := []) (j := 0) (f := callF [odE [] 0 (rd 0)] F_count_rolled) (by decide) (by decide) nd rfl (by first | exact Or.inl rfl | exact Or.inr rfl) (ve_fn (k := 0) (fn := F_count_rolled) (C_count_rolled.mono (by decide)) hr (va_cons (vo_e (T := []) (k := 0) (f := rd 0) (xv 0)) (va_nil) (by decide))))   (vss_cons (κ1 := [0, 0]) (s := retS (opF fdivD [odE [] 1 (opF addD [odE [] 1 (opF addD [odE [] 0 (callF [odE [] 0 (rd 0), odE [] 0 (rd 0), odE [] 0 (rd 0)] F_count_heaps), odE [] 0 (opF mulD [odE [] 0 (cF (.int 3)), odE [] 0 (callF [odE [] 0 (rd 0), odE [] 0 (rd 0)] F_count_swapped)])]), odE [] 0 (opF mulD [odE [] 0 (cF (.int 2)), odS [0, 0] 1])]), odE [] 0 (cF (.int 6))]))   (vs_ret (T := []) (f := opF fdivD [odE [] 1 (opF addD [odE [] 1 (opF addD [odE [] 0 (callF [odE [] 0 (rd 0), odE [] 0 (rd 0), odE [] 0 (rd 0)] F_count_heaps), odE [] 0 (opF mulD [odE [] 0 (cF (.int 3)), odE [] 0 (callF [odE [] 0 (rd 0), odE [] 0 (rd 0)] F_count_swapped)])]), odE [] 0 (opF mulD [odE [] 0 (cF (.int 2)), odS [0, 0] 1])]), odE [] 0 (cF (.int 6))]) (ve_bin op_fdivA (O_fdiv (k := 0)) (vo_e (T := []) (k := 1) (f := opF addD [odE [] 1 (opF addD [odE [] 0 (callF [odE [] 0 (rd 0), odE [] 0 (rd 0), odE [] 0 (rd 0)] F_count_heaps), odE [] 0 (opF mulD [odE [] 0 (cF (.int 3)), odE [] 0 (callF [odE [] 0 (rd 0), odE [] 0 (rd 0)] F_count_swapped)])]), odE [] 0 (opF mulD [odE [] 0 (cF (.int 2)), odS [0, 0] 1])]) (ve_bin op_addA (O_add (by decide) (by decide)) (vo_e (T := []) (k := 1) (f := opF addD [odE [] 0 (callF [odE [] 0 (rd 0), odE [] 0 (rd 0), odE [] 0 (rd 0)] F_count_heaps), odE [] 0 (opF mulD [odE [] 0 (cF (.int 3)), odE [] 0 (callF [odE [] 0 (rd 0), odE [] 0 (rd 0)] F_count_swapped)])]) (ve_bin op_addA (O_add (by decide) (by decide)) (vo_e (T := []) (k := 0) (f := callF [odE [] 0 (rd 0), odE [] 0 (rd 0), odE [] 0 (rd 0)] F_count_heaps) (ve_fn (k := 0) (fn := F_count_heaps) (C_count_heaps.mono (by decide)) hr (va_cons (vo_e (T := []) (k := 0) (f := rd 0) (xv 0)) (va_cons (vo_e (T := []) (k := 0) (f := rd 0) (xv 0)) (va_cons (vo_e (T := []) (k := 0) (f := rd 0) (xv 0)) (va_nil) (by decide)) (by decide)) (by decide)))) (vo_e (T := []) (k := 0) (f := opF mulD [odE [] 0 (cF (.int 3)), odE [] 0 (callF [odE [] 0 (rd 0), odE [] 0 (rd 0)] F_count_swapped)]) (ve_bin op_mulA (O_mul (k := 0)) (vo_e (T := []) (k := 0) (f := cF (.int 3)) (ve_int (k := 0))) (vo_e (T := []) (k := 0) (f := callF [odE [] 0 (rd 0), odE [] 0 (rd 0)] F_count_swapped) (ve_fn (k := 0) (fn := F_count_swapped) (C_count_swapped.mono (by decide)) hr (va_cons (vo_e (T := []) (k := 0) (f := rd 0) (xv 0)) (va_cons (vo_e (T := []) (k := 0) (f := rd 0) (xv 0)) (va_nil) (by decide)) (by decide)))) (by decide))) (by decide))) (vo_e (T := []) (k := 0) (f := opF mulD [odE [] 0 (cF (.int 2)), odS [0, 0] 1]) (ve_bin op_mulA (O_mul (k := 0)) (vo_e (T := []) (k := 0) (f := cF (.int 2)) (ve_int (k := 0))) (xo 1) (by decide))) (by decide))) (vo_e (T := []) (k := 0) (f := cF (.int 6)) (ve_int (k := 0))) (by decide)))   (vss_nil))
  exact ⟨fa, fd, _, h, hm, F.kp, hb⟩
abbrev s_ulaw_refill : Stmt := topS 27
abbrev N_ulaw_refill : List Str := ["script", "k", "cell"]
theorem sc_ulaw_refill : FnScope N_ulaw_refill ["script", "k"] (defScope s_ulaw_refill) := ⟨rfl, rfl, rfl, by decide +kernel, rfl, by decide +kernel, by decide +kernel⟩
def S_ulaw_refill : SemS := seqS (setS 2 (cF (.int 0))) (seqS (ifS (truO (odS [0, 0, 0] 0)) (seqS (setS 2 (opF ixD [odS [0, 0, 0] 0, odE [] 0 (opF modD [odS [0, 0, 0] 1, odE [] 0 (opF lenD [odS [0, 0, 0] 0])])])) (nilS)) (nilS)) (seqS (ifS (tstF (opF ltD [odS [0, 0, 0] 2, odE [] 0 (cF (.int 0))])) (seqS (setS 2 (opF subD [odE [] 0 (cF (.int 1)), odE [] 0 (opF mulD [odE [] 0 (cF (.int 2)), odS [0, 0, 0] 2])])) (nilS)) (nilS)) (seqS (ifS (andF (tstF (opF geD [odS [0, 0, 0] 2, odE [] 0 (opF powD [odE [] 0 (cF (.int 10)), odE [] 0 (cF (.int 18))])])) (tstF (opF ltD [odS [0, 0, 0] 1, odE [] 0 (opF lenD [odS [0, 0, 0] 0])]))) (seqS (retS (rd 2)) (nilS)) (nilS)) (seqS (retS (opF modD [odE [] 0 (opF intD [odE [] 1 (opF addD [odE [] 0 (opF mulD [odE [] 0 (opF intD [odE [] 1 (opF addD [odE [] 1 (opF addD [odE [] 0 (opF mulD [odS [0, 0, 0] 2, odE [] 0 (cF (.int 48271))]), odE [] 0 (opF mulD [odS [0, 0, 0] 1, odE [] 0 (cF (.int 69621))])]), odE [] 0 (cF (.int 12345))])]), odE [] 0 (cF (.int 40692))]), odE [] 0 (cF (.int 7))])]), odE [] 0 (cF (.int 2147483399))])) (nilS)))))
def F_ulaw_refill : Sem0 := fnF [] N_ulaw_refill.length S_ulaw_refill
theorem ok_ulaw_refill {P : Program} {w : World} {K : PySem.W.Frag} {mg : Str → Option Value} {base : Heap} {fa : Addr} {fd : FuncData} (F : Fun K "_law_refill" "_law_refill" s_ulaw_refill fa fd) (hm : mg "_law_refill" = some (.ref fa)) (hb : Binds K fd ["script", "k"] []) (bn : ∀ x, x ∈ bnames → mg x = none)  : CalD P w K mg base 1 "_law_refill" (spD ⟨K, P, w⟩ [] [0, 0] 0 F_ulaw_refill) := by
  have h : FnOk P w K mg base CX0 1 fa fd ["script", "k"] (spD ⟨K, P, w⟩ [] [0, 0] 0 (fnF [] N_ulaw_refill.length S_ulaw_refill)) := by
    refine fn_ok (lv := 0) (N := N_ulaw_refill) (κ' := [0, 0, 0]) (κp := [0, 0]) (κl := [0]) (Φ := []) (s := S_ulaw_refill) F sc_ulaw_refill rfl rfl (zero_out (by decide)) (fun cdv A outer s0 H E hr => ?_)
    have hu := hr.units
    have nd := sc_ulaw_refill.nd
    exact vss_cons (κ1 := [0, 0, 0]) (s := setS 2 (cF (.int 0)))   (vs_set (i := 2) (T := []) (j := 0) (f := cF (.int 0)) (by decide) (by decide) nd rfl (by first | exact Or.inl rfl | exact Or.inr rfl) (ve_int (k := 0)))   (vss_cons (κ1 := [0, 0, 0]) (s := ifS (truO (odS [0, 0, 0] 0)) (seqS (setS 2 (opF ixD [odS [0, 0, 0] 0, odE [] 0 (opF modD [odS [0, 0, 0] 1, odE [] 0 (opF lenD [odS [0, 0, 0] 0])])])) (nilS)) (nilS))   (vs_if (T := []) (t := truO (odS [0, 0, 0] 0)) (vt_tru (xo 0))  (vss_cons (κ1 := [0, 0, 0]) (s := setS 2 (opF ixD [odS [0, 0, 0] 0, odE [] 0 (opF modD [odS [0, 0, 0] 1, odE [] 0 (opF lenD [odS [0, 0, 0] 0])])]))   (vs_set (i := 2) (T := []) (j := 0) (f := opF ixD [odS [0, 0, 0] 0, odE [] 0 (opF modD [odS [0, 0, 0] 1, odE [] 0 (opF lenD [odS [0, 0, 0] 0])])]) (by decide) (by decide) nd rfl (by first | exact Or.inl rfl | exact Or.inr rfl) (ve_ix ix_seq (O_ix (by decide)) (xo 0) (vo_e (T := []) (k := 0) (f := opF modD [odS [0, 0, 0] 1, odE [] 0 (opF lenD [odS [0, 0, 0] 0])]) (ve_bin op_mod (O_mod (k := 0)) (xo 1) (vo_e (T := []) (k := 0) (f := opF lenD [odS [0, 0, 0] 0]) (ve_callB call_len (O_len (k := 0)) (by rfl) (by exact bn "len" (by decide)) vb_len (va_cons (xo 0) (va_nil) (by decide)))) (by decide))) (by decide)))   (vss_nil))  (vss_nil))   (vss_cons (κ1 := [0, 0, 0]) (s := ifS (tstF (opF ltD [odS [0, 0, 0] 2, odE [] 0 (cF (.int 0))])) (seqS (setS 2 (opF subD [odE [] 0 (cF (.int 1)), odE [] 0 (opF mulD [odE [] 0 (cF (.int 2)), odS [0, 0, 0] 2])])) (nilS)) (nilS))   (vs_if (T := []) (t := tstF (opF ltD [odS [0, 0, 0] 2, odE [] 0 (cF (.int 0))])) (vt_cmp op_lt (O_lt ) (xo 2) (vo_e (T := []) (k := 0) (f := cF (.int 0)) (ve_int (k := 0))) (by decide))  (vss_cons (κ1 := [0, 0, 0]) (s := setS 2 (opF subD [odE [] 0 (cF (.int 1)), odE [] 0 (opF mulD [odE [] 0 (cF (.int 2)), odS [0, 0, 0] 2])]))   (vs_set (i := 2) (T := []) (j := 0) (f := opF subD [odE [] 0 (cF (.int 1)), odE [] 0 (opF mulD [odE [] 0 (cF (.int 2)), odS [0, 0, 0] 2])]) (by decide) (by decide) nd rfl (by first | exact Or.inl rfl | exact Or.inr rfl) (ve_bin op_sub (O_sub (k := 0)) (vo_e (T := []) (k := 0) (f := cF (.int 1)) (ve_int (k := 0))) (vo_e (T := []) (k := 0) (f := opF mulD [odE [] 0 (cF (.int 2)), odS [0, 0, 0] 2]) (ve_bin op_mulA (O_mul (k := 0)) (vo_e (T := []) (k := 0) (f := cF (.int 2)) (ve_int (k := 0))) (xo 2) (by decide))) (by decide)))   (vss_nil))  (vss_nil))   (vss_cons (κ1 := [0, 0, 0]) (s := ifS (andF (tstF (opF geD [odS [0, 0, 0] 2, odE [] 0 (opF powD [odE [] 0 (cF (.int 10)), odE [] 0 (cF (.int 18))])])) (tstF (opF ltD [odS [0, 0, 0] 1, odE [] 0 (opF lenD [odS [0, 0, 0] 0])]))) (seqS (retS (rd 2)) (nilS)) (nilS))   (vs_if (T := []) (t := andF (tstF (opF geD [odS [0, 0, 0] 2, odE [] 0 (opF powD [odE [] 0 (cF (.int 10)), odE [] 0 (cF (.int 18))])])) (tstF (opF ltD [odS [0, 0, 0] 1, odE [] 0 (opF lenD [odS [0, 0, 0] 0])]))) ((vw_and (vt_cmp op_ge (O_ge ) (xo 2) (vo_e (T := []) (k := 0) (f := opF powD [odE [] 0 (cF (.int 10)), odE [] 0 (cF (.int 18))]) (ve_bin op_pow (O_pow (k := 0)) (vo_e (T := []) (k := 0) (f := cF (.int 10)) (ve_int (k := 0))) (vo_e (T := []) (k := 0) (f := cF (.int 18)) (ve_int (k := 0))) (by decide))) (by decide)) (vw_and1 (vt_cmp op_lt (O_lt ) (xo 1) (vo_e (T := []) (k := 0) (f := opF lenD [odS [0, 0, 0] 0]) (ve_callB call_len (O_len (k := 0)) (by rfl) (by exact bn "len" (by decide)) vb_len (va_cons (xo 0) (va_nil) (by decide)))) (by decide)))).pt)  (vss_cons (κ1 := [0, 0, 0]) (s := retS (rd 2))   (vs_ret (T := []) (f := rd 2) (xv 2))   (vss_nil))  (vss_nil))   (vss_cons (κ1 := [0, 0, 0]) (s := retS (opF modD [odE [] 0 (opF intD [odE [] 1 (opF addD [odE [] 0 (opF mulD [odE [] 0 (opF intD [odE [] 1 (opF addD [odE [] 1 (opF addD [odE [] 0 (opF mulD [odS [0, 0, 0] 2, odE [] 0 (cF (.int 48271))]), odE [] 0 (opF mulD [odS [0, 0, 0] 1, odE [] 0 (cF (.int 69621))])]), odE [] 0 (cF (.int 12345))])]), odE [] 0 (cF (.int 40692))]), odE [] 0 (cF (.int 7))])]), odE [] 0 (cF (.int 2147483399))]))   (vs_ret (T := []) (f := opF modD [odE [] 0 (opF intD [odE [] 1 (opF addD [odE [] 0 (opF mulD [odE [] 0 (opF intD [odE [] 1 (opF addD [odE [] 1 (opF addD [odE [] 0 (opF mulD [odS [0, 0, 0] 2, odE [] 0 (cF (.int 48271))]), odE [] 0 (opF mulD [odS [0, 0, 0] 1, odE [] 0 (cF (.int 69621))])]), odE [] 0 (cF (.int 12345))])]), odE [] 0 (cF (.int 40692))]), odE [] 0 (cF (.int 7))])]), odE [] 0 (cF (.int 2147483399))]) (ve_bin op_mod (O_mod (k := 0)) (vo_e (T := []) (k := 0) (f := opF intD [odE [] 1 (opF addD [odE [] 0 (opF mulD [odE [] 0 (opF intD [odE [] 1 (opF addD [odE [] 1 (opF addD [odE [] 0 (opF mulD [odS [0, 0, 0] 2, odE [] 0 (cF (.int 48271))]), odE [] 0 (opF mulD [odS [0, 0, 0] 1, odE [] 0 (cF (.int 69621))])]), odE [] 0 (cF (.int 12345))])]), odE [] 0 (cF (.int 40692))]), odE [] 0 (cF (.int 7))])]) (ve_callTy call_int1 (O_int (k := 0)) (by rfl) (by exact bn "int" (by decide)) vb_int (va_cons (vo_e (T := []) (k := 1) (f := opF addD [odE [] 0 (opF mulD [odE [] 0 (opF intD [odE [] 1 (opF addD [odE [] 1 (opF addD [odE [] 0 (opF mulD [odS [0, 0, 0] 2, odE [] 0 (cF (.int 48271))]), odE [] 0 (opF mulD [odS [0, 0, 0] 1, odE [] 0 (cF (.int 69621))])]), odE [] 0 (cF (.int 12345))])]), odE [] 0 (cF (.int 40692))]), odE [] 0 (cF (.int 7))]) (ve_bin op_addA (O_add (by decide) (by decide)) (vo_e (T := []) (k := 0) (f := opF mulD [odE [] 0 (opF intD [odE [] 1 (opF addD [odE [] 1 (opF addD [odE [] 0 (opF mulD [odS [0, 0, 0] 2, odE [] 0 (cF (.int 48271))]), odE [] 0 (opF mulD [odS [0, 0, 0] 1, odE [] 0 (cF (.int 69621))])]), odE [] 0 (cF (.int 12345))])]), odE [] 0 (cF (.int 40692))]) (ve_bin op_mulA (O_mul (k := 0)) (vo_e (T := []) (k := 0) (f := opF intD [odE [] 1 (opF addD [odE [] 1 (opF addD [odE [] 0 (opF mulD [odS [0, 0, 0] 2, odE [] 0 (cF (.int 48271))]), odE [] 0 (opF mulD [odS [0, 0, 0] 1, odE [] 0 (cF (.int 69621))])]), odE [] 0 (cF (.int 12345))])]) (ve_callTy call_int1 (O_int (k := 0)) (by rfl) (by exact bn "int" (by decide)) vb_int (va_cons (vo_e (T := []) (k := 1) (f := opF addD [odE [] 1 (opF addD [odE [] 0 (opF mulD [odS [0, 0, 0] 2, odE [] 0 (cF (.int 48271))]), odE [] 0 (opF mulD [odS [0, 0, 0] 1, odE [] 0 (cF (.int 69621))])]), odE [] 0 (cF (.int 12345))]) (ve_bin op_addA (O_add (by decide) (by decide)) (vo_e (T := []) (k := 1) (f := opF addD [odE [] 0 (opF mulD [odS [0, 0, 0] 2, odE [] 0 (cF (.int 48271))]), odE [] 0 (opF mulD [odS [0, 0, 0] 1, odE [] 0 (cF (.int 69621))])]) (ve_bin op_addA (O_add (by decide) (by decide)) (vo_e (T := []) (k := 0) (f := opF mulD [odS [0, 0, 0] 2, odE [] 0 (cF (.int 48271))]) (ve_bin op_mulA (O_mul (k := 0)) (xo 2) (vo_e (T := []) (k := 0) (f := cF (.int 48271)) (ve_int (k := 0))) (by decide))) (vo_e (T := []) (k := 0) (f := opF mulD [odS [0, 0, 0] 1, odE [] 0 (cF (.int 69621))]) (ve_bin op_mulA (O_mul (k := 0)) (xo 1) (vo_e (T := []) (k := 0) (f := cF (.int 69621)) (ve_int (k := 0))) (by decide))) (by decide))) (vo_e (T := []) (k := 0) (f := cF (.int 12345)) (ve_int (k := 0))) (by decide))) (va_nil) (by decide)))) (vo_e (T := []) (k := 0) (f := cF (.int 40692)) (ve_int (k := 0))) (by decide))) (vo_e (T := []) (k := 0) (f := cF (.int 7)) (ve_int (k := 0))) (by decide))) (va_nil) (by decide)))) (vo_e (T := []) (k := 0) (f := cF (.int 2147483399)) (ve_int (k := 0))) (by decide)))   (vss_nil)))))
  exact ⟨fa, fd, _, h, hm, F.kp, hb⟩
abbrev s_ulaw_draw : Stmt := topS 28
abbrev N_ulaw_draw : List Str := ["state", "script", "size", "digit"]
theorem sc_ulaw_draw : FnScope N_ulaw_draw ["state", "script", "size"] (defScope s_ulaw_draw) := ⟨rfl, rfl, rfl, by decide +kernel, rfl, by decide +kernel, by decide +kernel⟩
def S_ulaw_draw : SemS := seqS (ifS (tstF (opF eqD [odE [] 0 (opF ixD [odS [1, 0, 0, 0] 0, odE [] 0 (cF (.int 1))]), odE [] 0 (cF (.int 0))])) (seqS (stS 0 (callF [odE [] 0 (rd 1), odE [] 0 (opF ixD [odS [1, 0, 0, 0] 0, odE [] 0 (cF (.int 0))])] F_ulaw_refill) (cF (.int 1))) (seqS (stS 0 (opF addD [odE [] 0 (opF ixD [odS [1, 0, 0, 0] 0, odE [] 0 (cF (.int 0))]), odE [] 0 (cF (.int 1))]) (cF (.int 0))) (nilS))) (nilS)) (seqS (setS 3 (opF modD [odE [] 0 (opF intD [odE [] 0 (opF ixD [odS [1, 0, 0, 0] 0, odE [] 0 (cF (.int 1))])]), odS [1, 0, 0, 0] 2])) (seqS (stS 0 (opF fdivD [odE [] 0 (opF ixD [odS [1, 0, 0, 0] 0, odE [] 0 (cF (.int 1))]), odS [1, 0, 0, 0] 2]) (cF (.int 1))) (seqS (retS (rd 3)) (nilS))))
def F_ulaw_draw : Sem0 := fnF [0] N_ulaw_draw.length S_ulaw_draw
theorem ok_ulaw_draw {P : Program} {w : World} {K : PySem.W.Frag} {mg : Str → Option Value} {base : Heap} {fa : Addr} {fd : FuncData} (F : Fun K "_law_draw" "_law_draw" s_ulaw_draw fa fd) (hm : mg "_law_draw" = some (.ref fa)) (hb : Binds K fd ["state", "script", "size"] []) (bn : ∀ x, x ∈ bnames → mg x = none) (C_ulaw_refill : CalD P w K mg base 1 "_law_refill" (spD ⟨K, P, w⟩ [] [0, 0] 0 F_ulaw_refill)) : CalD P w K mg base 2 "_law_draw" (spD ⟨K, P, w⟩ [0] [1, 0, 0] 0 F_ulaw_draw) := by
  have h : FnOk P w K mg base CX0 2 fa fd ["state", "script", "size"] (spD ⟨K, P, w⟩ [0] [1, 0, 0] 0 (fnF [0] N_ulaw_draw.length S_ulaw_draw)) := by
    refine fn_ok (lv := 1) (N := N_ulaw_draw) (κ' := [1, 0, 0, 0]) (κp := [1, 0, 0]) (κl := [0]) (Φ := [0]) (s := S_ulaw_draw) F sc_ulaw_draw rfl rfl (zero_out (by decide)) (fun cdv A outer s0 H E hr => ?_)
    have hu := hr.units
    have nd := sc_ulaw_draw.nd
    exact vss_cons (κ1 := [1, 0, 0, 0]) (s := ifS (tstF (opF eqD [odE [] 0 (opF ixD [odS [1, 0, 0, 0] 0, odE [] 0 (cF (.int 1))]), odE [] 0 (cF (.int 0))])) (seqS (stS 0 (callF [odE [] 0 (rd 1), odE [] 0 (opF ixD [odS [1, 0, 0, 0] 0, odE [] 0 (cF (.int 0))])] F_ulaw_refill) (cF (.int 1))) (seqS (stS 0 (opF addD [odE [] 0 (opF ixD [odS [1, 0, 0, 0] 0, odE [] 0 (cF (.int 0))]), odE [] 0 (cF (.int 1))]) (cF (.int 0))) (nilS))) (nilS))   (vs_if (T := []) (t := tstF (opF eqD [odE [] 0 (opF ixD [odS [1, 0, 0, 0] 0, odE [] 0 (cF (.int 1))]), odE [] 0 (cF (.int 0))])) (vt_cmp (op_eqA hu) (O_eq ) (vo_e (T := []) (k := 0) (f := opF ixD [odS [1, 0, 0, 0] 0, odE [] 0 (cF (.int 1))]) (ve_ix ix_seq (O_ix (by decide)) (xo 0) (vo_e (T := []) (k := 0) (f := cF (.int 1)) (ve_int (k := 0))) (by decide))) (vo_e (T := []) (k := 0) (f := cF (.int 0)) (ve_int (k := 0))) (by decide))  (vss_cons (κ1 := [1, 0, 0, 0]) (s := stS 0 (callF [odE [] 0 (rd 1), odE [] 0 (opF ixD [odS [1, 0, 0, 0] 0, odE [] 0 (cF (.int 0))])] F_ulaw_refill) (cF (.int 1)))   (vs_setIx (i := 0) (T := []) (U := []) (f := callF [odE [] 0 (rd 1), odE [] 0 (opF ixD [odS [1, 0, 0, 0] 0, odE [] 0 (cF (.int 0))])] F_ulaw_refill) (g := cF (.int 1)) (by decide) (by decide) rfl (by first | exact Or.inl rfl | exact Or.inr (Or.inl rfl) | exact Or.inr (Or.inr rfl)) (ve_fn (k := 0) (fn := F_ulaw_refill) (C_ulaw_refill.mono (by decide)) hr (va_cons (vo_e (T := []) (k := 0) (f := rd 1) (xv 1)) (va_cons (vo_e (T := []) (k := 0) (f := opF ixD [odS [1, 0, 0, 0] 0, odE [] 0 (cF (.int 0))]) (ve_ix ix_seq (O_ix (by decide)) (xo 0) (vo_e (T := []) (k := 0) (f := cF (.int 0)) (ve_int (k := 0))) (by decide))) (va_nil) (by decide)) (by decide))) (ve_int (k := 0)))   (vss_cons (κ1 := [1, 0, 0, 0]) (s := stS 0 (opF addD [odE [] 0 (opF ixD [odS [1, 0, 0, 0] 0, odE [] 0 (cF (.int 0))]), odE [] 0 (cF (.int 1))]) (cF (.int 0)))   (vs_setIx (i := 0) (T := []) (U := []) (f := opF addD [odE [] 0 (opF ixD [odS [1, 0, 0, 0] 0, odE [] 0 (cF (.int 0))]), odE [] 0 (cF (.int 1))]) (g := cF (.int 0)) (by decide) (by decide) rfl (by first | exact Or.inl rfl | exact Or.inr (Or.inl rfl) | exact Or.inr (Or.inr rfl)) (ve_share (k := 1) (ve_bin op_addA (O_add (by decide) (by decide)) (vo_e (T := []) (k := 0) (f := opF ixD [odS [1, 0, 0, 0] 0, odE [] 0 (cF (.int 0))]) (ve_ix ix_seq (O_ix (by decide)) (xo 0) (vo_e (T := []) (k := 0) (f := cF (.int 0)) (ve_int (k := 0))) (by decide))) (vo_e (T := []) (k := 0) (f := cF (.int 1)) (ve_int (k := 0))) (by decide))) (ve_int (k := 0)))   (vss_nil)))  (vss_nil))   (vss_cons (κ1 := [1, 0, 0, 0]) (s := setS 3 (opF modD [odE [] 0 (opF intD [odE [] 0 (opF ixD [odS [1, 0, 0, 0] 0, odE [] 0 (cF (.int 1))])]), odS [1, 0, 0, 0] 2]))   (vs_set (i := 3) (T := []) (j := 0) (f := opF modD [odE [] 0 (opF intD [odE [] 0 (opF ixD [odS [1, 0, 0, 0] 0, odE [] 0 (cF (.int 1))])]), odS [1, 0, 0, 0] 2]) (by decide) (by decide) nd rfl (by first | exact Or.inl rfl | exact Or.inr rfl) (ve_bin op_mod (O_mod (k := 0)) (vo_e (T := []) (k := 0) (f := opF intD [odE [] 0 (opF ixD [odS [1, 0, 0, 0] 0, odE [] 0 (cF (.int 1))])]) (ve_callTy call_int1 (O_int (k := 0)) (by rfl) (by exact bn "int" (by decide)) vb_int (va_cons (vo_e (T := []) (k := 0) (f := opF ixD [odS [1, 0, 0, 0] 0, odE [] 0 (cF (.int 1))]) (ve_ix ix_seq (O_ix (by decide)) (xo 0) (vo_e (T := []) (k := 0) (f := cF (.int 1)) (ve_int (k := 0))) (by decide))) (va_nil) (by decide)))) (xo 2) (by decide)))   (vss_cons (κ1 := [1, 0, 0, 0]) (s := stS 0 (opF fdivD [odE [] 0 (opF ixD [odS [1, 0, 0, 0] 0, odE [] 0 (cF (.int 1))]), odS [1, 0, 0, 0] 2]) (cF (.int 1)))   (vs_setIx (i := 0) (T := []) (U := []) (f := opF fdivD [odE [] 0 (opF ixD [odS [1, 0, 0, 0] 0, odE [] 0 (cF (.int 1))]), odS [1, 0, 0, 0] 2]) (g := cF (.int 1)) (by decide) (by decide) rfl (by first | exact Or.inl rfl | exact Or.inr (Or.inl rfl) | exact Or.inr (Or.inr rfl)) (ve_bin op_fdivA (O_fdiv (k := 0)) (vo_e (T := []) (k := 0) (f := opF ixD [odS [1, 0, 0, 0] 0, odE [] 0 (cF (.int 1))]) (ve_ix ix_seq (O_ix (by decide)) (xo 0) (vo_e (T := []) (k := 0) (f := cF (.int 1)) (ve_int (k := 0))) (by decide))) (xo 2) (by decide)) (ve_int (k := 0)))   (vss_cons (κ1 := [1, 0, 0, 0]) (s := retS (rd 3))   (vs_ret (T := []) (f := rd 3) (xv 3))   (vss_nil))))
  exact ⟨fa, fd, _, h, hm, F.kp, hb⟩
abbrev s_ulaw_exact : Stmt := topS 29
abbrev N_ulaw_exact : List Str := ["first", "second", "alike", "k"]
theorem sc_ulaw_exact : FnScope N_ulaw_exact ["first", "second"] (defScope s_ulaw_exact) := ⟨rfl, rfl, rfl, by decide +kernel, rfl, by decide +kernel, by decide +kernel⟩
def S_ulaw_exact (self : Sem0) : SemS := seqS (ifS (truO (odE [] 0 (opF (isi2D "list" "tuple") [odS [0, 0, 0, 0] 0]))) (seqS (ifS (orF (tstF (opF neD [odE [] 0 (opF (isiD "list") [odS [0, 0, 0, 0] 0]), odE [] 0 (opF (isiD "list") [odS [0, 0, 0, 0] 1])])) (tstF (opF neD [odE [] 0 (opF (isiD "tuple") [odS [0, 0, 0, 0] 0]), odE [] 0 (opF (isiD "tuple") [odS [0, 0, 0, 0] 1])]))) (seqS (retS (cF (.bl false))) (nilS)) (nilS)) (seqS (retS (andV (opF eqD [odE [] 0 (opF lenD [odS [0, 0, 0, 0] 0]), odE [] 0 (opF lenD [odS [0, 0, 0, 0] 1])]) (opF allD [odE [] 1 (lcF (clF (rng1 [odE [] 0 (opF lenD [odS [0, 0, 0, 0] 0])]) [3] (tgN 3) (yesF) (oneF (callF [odE [] 0 (opF ixD [odS [0, 0, 0, 0] 0, odS [0, 0, 0, 0] 3]), odE [] 0 (opF ixD [odS [0, 0, 0, 0] 1, odS [0, 0, 0, 0] 3])] self))))]))) (nilS))) (nilS)) (seqS (ifS (orF (tstF (opF isND [odS [0, 0, 0, 0] 0, odE [] 0 (cF .non)])) (tstF (opF isND [odS [0, 0, 0, 0] 1, odE [] 0 (cF .non)]))) (seqS (retS (andV (opF isND [odS [0, 0, 0, 0] 0, odE [] 0 (cF .non)]) (opF isND [odS [0, 0, 0, 0] 1, odE [] 0 (cF .non)]))) (nilS)) (nilS)) (seqS (setS 2 (andV (opF eqD [odE [] 0 (opF (isiD "str") [odS [0, 0, 0, 0] 0]), odE [] 0 (opF (isiD "str") [odS [0, 0, 0, 0] 1])]) (opF eqD [odE [] 0 (opF (isiD "bool") [odS [0, 0, 0, 0] 0]), odE [] 0 (opF (isiD "bool") [odS [0, 0, 0, 0] 1])]))) (seqS (retS (andV (rd 2) (andV (opF eqD [odE [] 0 (opF (isiD "int") [odS [0, 0, 0, 0] 0]), odE [] 0 (opF (isiD "int") [odS [0, 0, 0, 0] 1])]) (opF eqD [odS [0, 0, 0, 0] 0, odS [0, 0, 0, 0] 1])))) (nilS))))
def F_ulaw_exact : Nat → Sem0
  | 0 => fun _ => none
  | n + 1 => fnF [] N_ulaw_exact.length (S_ulaw_exact (F_ulaw_exact n))
theorem ok_ulaw_exact {P : Program} {w : World} {K : PySem.W.Frag} {mg : Str → Option Value} {base : Heap} {fa : Addr} {fd : FuncData} (F : Fun K "_law_exact" "_law_exact" s_ulaw_exact fa fd) (hm : mg "_law_exact" = some (.ref fa)) (hb : Binds K fd ["first", "second"] []) (bn : ∀ x, x ∈ bnames → mg x = none)  : ∀ n : Nat, CalD P w K mg base (0 + n) "_law_exact" (spD ⟨K, P, w⟩ [] [0, 0] 0 (F_ulaw_exact n))
  | 0 => ⟨fa, fd, ["first", "second"], ⟨fun vs H Q E h => (by obtain ⟨_, _, _, _, _, _, e, _⟩ := h; cases e), fun _ _ _ _ _ _ _ _ _ _ _ _ _ h => (by obtain ⟨_, _, _, _, _, _, e, _⟩ := h; cases e)⟩, hm, F.kp, hb⟩
  | n + 1 => by
    have C_self := ok_ulaw_exact (P := P) (w := w) (base := base) F hm hb bn  n
    show CalD P w K mg base (0 + n + 1) "_law_exact" (spD ⟨K, P, w⟩ [] [0, 0] 0 (fnF [] N_ulaw_exact.length (S_ulaw_exact (F_ulaw_exact n))))
    generalize F_ulaw_exact n = self at C_self ⊢
    have h : FnOk P w K mg base CX0 (0 + n + 1) fa fd ["first", "second"] (spD ⟨K, P, w⟩ [] [0, 0] 0 (fnF [] N_ulaw_exact.length (S_ulaw_exact self))) := by
      refine fn_ok (lv := 0 + n) (N := N_ulaw_exact) (κ' := [0, 0, 0, 0]) (κp := [0, 0]) (κl := [0, 0]) (Φ := []) (s := S_ulaw_exact self) F sc_ulaw_exact rfl rfl (zero_out (by decide)) (fun cdv A outer s0 H E hr => ?_)
      have hu := hr.units
      have nd := sc_ulaw_exact.nd
      exact vss_cons (κ1 := [0, 0, 0, 0]) (s := ifS (truO (odE [] 0 (opF (isi2D "list" "tuple") [odS [0, 0, 0, 0] 0]))) (seqS (ifS (orF (tstF (opF neD [odE [] 0 (opF (isiD "list") [odS [0, 0, 0, 0] 0]), odE [] 0 (opF (isiD "list") [odS [0, 0, 0, 0] 1])])) (tstF (opF neD [odE [] 0 (opF (isiD "tuple") [odS [0, 0, 0, 0] 0]), odE [] 0 (opF (isiD "tuple") [odS [0, 0, 0, 0] 1])]))) (seqS (retS (cF (.bl false))) (nilS)) (nilS)) (seqS (retS (andV (opF eqD [odE [] 0 (opF lenD [odS [0, 0, 0, 0] 0]), odE [] 0 (opF lenD [odS [0, 0, 0, 0] 1])]) (opF allD [odE [] 1 (lcF (clF (rng1 [odE [] 0 (opF lenD [odS [0, 0, 0, 0] 0])]) [3] (tgN 3) (yesF) (oneF (callF [odE [] 0 (opF ixD [odS [0, 0, 0, 0] 0, odS [0, 0, 0, 0] 3]), odE [] 0 (opF ixD [odS [0, 0, 0, 0] 1, odS [0, 0, 0, 0] 3])] self))))]))) (nilS))) (nilS))   (vs_if (T := []) (t := truO (odE [] 0 (opF (isi2D "list" "tuple") [odS [0, 0, 0, 0] 0]))) (vt_tru (vo_e (T := []) (k := 0) (f := opF (isi2D "list" "tuple") [odS [0, 0, 0, 0] 0]) (ve_isi2 (k := 0) (Ty := "list") (Sy := "tuple") (by first | decide | (intro i h; cases h; done) | exact Nat.le_refl _ | exact Nat.zero_le _ | (intro o ho; cases ho; done) | (intro o ho; simp only [List.mem_cons, List.mem_nil_iff, or_false] at ho; first | (subst ho; rfl) | (rcases ho with rfl | rfl <;> rfl) | (rcases ho with rfl | rfl | rfl <;> rfl)) | (intro i h; cases h; decide) | simp [alS]) (by first | decide | (intro i h; cases h; done) | exact Nat.le_refl _ | exact Nat.zero_le _ | (intro o ho; cases ho; done) | (intro o ho; simp only [List.mem_cons, List.mem_nil_iff, or_false] at ho; first | (subst ho; rfl) | (rcases ho with rfl | rfl <;> rfl) | (rcases ho with rfl | rfl | rfl <;> rfl)) | (intro i h; cases h; decide) | simp [alS]) (by rfl) (by exact bn "isinstance" (by first | decide | (intro i h; cases h; done) | exact Nat.le_refl _ | exact Nat.zero_le _ | (intro o ho; cases ho; done) | (intro o ho; simp only [List.mem_cons, List.mem_nil_iff, or_false] at ho; first | (subst ho; rfl) | (rcases ho with rfl | rfl <;> rfl) | (rcases ho with rfl | rfl | rfl <;> rfl)) | (intro i h; cases h; decide) | simp [alS])) (xo 0) (by rfl) (by exact bn "list" (by first | decide | (intro i h; cases h; done) | exact Nat.le_refl _ | exact Nat.zero_le _ | (intro o ho; cases ho; done) | (intro o ho; simp only [List.mem_cons, List.mem_nil_iff, or_false] at ho; first | (subst ho; rfl) | (rcases ho with rfl | rfl <;> rfl) | (rcases ho with rfl | rfl | rfl <;> rfl)) | (intro i h; cases h; decide) | simp [alS])) vb_list (by rfl) (by exact bn "tuple" (by first | decide | (intro i h; cases h; done) | exact Nat.le_refl _ | exact Nat.zero_le _ | (intro o ho; cases ho; done) | (intro o ho; simp only [List.mem_cons, List.mem_nil_iff, or_false] at ho; first | (subst ho; rfl) | (rcases ho with rfl | rfl <;> rfl) | (rcases ho with rfl | rfl | rfl <;> rfl)) | (intro i h; cases h; decide) | simp [alS])) vb_tuple)))  (vss_cons (κ1 := [0, 0, 0, 0]) (s := ifS (orF (tstF (opF neD [odE [] 0 (opF (isiD "list") [odS [0, 0, 0, 0] 0]), odE [] 0 (opF (isiD "list") [odS [0, 0, 0, 0] 1])])) (tstF (opF neD [odE [] 0 (opF (isiD "tuple") [odS [0, 0, 0, 0] 0]), odE [] 0 (opF (isiD "tuple") [odS [0, 0, 0, 0] 1])]))) (seqS (retS (cF (.bl false))) (nilS)) (nilS))   (vs_if (T := []) (t := orF (tstF (opF neD [odE [] 0 (opF (isiD "list") [odS [0, 0, 0, 0] 0]), odE [] 0 (opF (isiD "list") [odS [0, 0, 0, 0] 1])])) (tstF (opF neD [odE [] 0 (opF (isiD "tuple") [odS [0, 0, 0, 0] 0]), odE [] 0 (opF (isiD "tuple") [odS [0, 0, 0, 0] 1])]))) ((vw_or (vt_cmp (op_neA hu) (O_ne ) (vo_e (T := []) (k := 0) (f := opF (isiD "list") [odS [0, 0, 0, 0] 0]) (ve_isi (k := 0) (Ty := "list") (by first | decide | (intro i h; cases h; done) | exact Nat.le_refl _ | exact Nat.zero_le _ | (intro o ho; cases ho; done) | (intro o ho; simp only [List.mem_cons, List.mem_nil_iff, or_false] at ho; first | (subst ho; rfl) | (rcases ho with rfl | rfl <;> rfl) | (rcases ho with rfl | rfl | rfl <;> rfl)) | (intro i h; cases h; decide) | simp [alS]) (by rfl) (by exact bn "isinstance" (by first | decide | (intro i h; cases h; done) | exact Nat.le_refl _ | exact Nat.zero_le _ | (intro o ho; cases ho; done) | (intro o ho; simp only [List.mem_cons, List.mem_nil_iff, or_false] at ho; first | (subst ho; rfl) | (rcases ho with rfl | rfl <;> rfl) | (rcases ho with rfl | rfl | rfl <;> rfl)) | (intro i h; cases h; decide) | simp [alS])) (xo 0) (by rfl) (by exact bn "list" (by first | decide | (intro i h; cases h; done) | exact Nat.le_refl _ | exact Nat.zero_le _ | (intro o ho; cases ho; done) | (intro o ho; simp only [List.mem_cons, List.mem_nil_iff, or_false] at ho; first | (subst ho; rfl) | (rcases ho with rfl | rfl <;> rfl) | (rcases ho with rfl | rfl | rfl <;> rfl)) | (intro i h; cases h; decide) | simp [alS])) vb_list)) (vo_e (T := []) (k := 0) (f := opF (isiD "list") [odS [0, 0, 0, 0] 1]) (ve_isi (k := 0) (Ty := "list") (by first | decide | (intro i h; cases h; done) | exact Nat.le_refl _ | exact Nat.zero_le _ | (intro o ho; cases ho; done) | (intro o ho; simp only [List.mem_cons, List.mem_nil_iff, or_false] at ho; first | (subst ho; rfl) | (rcases ho with rfl | rfl <;> rfl) | (rcases ho with rfl | rfl | rfl <;> rfl)) | (intro i h; cases h; decide) | simp [alS]) (by rfl) (by exact bn "isinstance" (by first | decide | (intro i h; cases h; done) | exact Nat.le_refl _ | exact Nat.zero_le _ | (intro o ho; cases ho; done) | (intro o ho; simp only [List.mem_cons, List.mem_nil_iff, or_false] at ho; first | (subst ho; rfl) | (rcases ho with rfl | rfl <;> rfl) | (rcases ho with rfl | rfl | rfl <;> rfl)) | (intro i h; cases h; decide) | simp [alS])) (xo 1) (by rfl) (by exact bn "list" (by first | decide | (intro i h; cases h; done) | exact Nat.le_refl _ | exact Nat.zero_le _ | (intro o ho; cases ho; done) | (intro o ho; simp only [List.mem_cons, List.mem_nil_iff, or_false] at ho; first | (subst ho; rfl) | (rcases ho with rfl | rfl <;> rfl) | (rcases ho with rfl | rfl | rfl <;> rfl)) | (intro i h; cases h; decide) | simp [alS])) vb_list)) (by first | decide | (intro i h; cases h; done) | exact Nat.le_refl _ | exact Nat.zero_le _ | (intro o ho; cases ho; done) | (intro o ho; simp only [List.mem_cons, List.mem_nil_iff, or_false] at ho; first | (subst ho; rfl) | (rcases ho with rfl | rfl <;> rfl) | (rcases ho with rfl | rfl | rfl <;> rfl)) | (intro i h; cases h; decide) | simp [alS])) (vw_or1 (vt_cmp (op_neA hu) (O_ne ) (vo_e (T := []) (k := 0) (f := opF (isiD "tuple") [odS [0, 0, 0, 0] 0]) (ve_isi (k := 0) (Ty := "tuple") (by first | decide | (intro i h; cases h; done) | exact Nat.le_refl _ | exact Nat.zero_le _ | (intro o ho; cases ho; done) | (intro o ho; simp only [List.mem_cons, List.mem_nil_iff, or_false] at ho; first | (subst ho; rfl) | (rcases ho with rfl | rfl <;> rfl) | (rcases ho with rfl | rfl | rfl <;> rfl)) | (intro i h; cases h; decide) | simp [alS]) (by rfl) (by exact bn "isinstance" (by first | decide | (intro i h; cases h; done) | exact Nat.le_refl _ | exact Nat.zero_le _ | (intro o ho; cases ho; done) | (intro o ho; simp only [List.mem_cons, List.mem_nil_iff, or_false] at ho; first | (subst ho; rfl) | (rcases ho with rfl | rfl <;> rfl) | (rcases ho with rfl | rfl | rfl <;> rfl)) | (intro i h; cases h; decide) | simp [alS])) (xo 0) (by rfl) (by exact bn "tuple" (by first | decide | (intro i h; cases h; done) | exact Nat.le_refl _ | exact Nat.zero_le _ | (intro o ho; cases ho; done) | (intro o ho; simp only [List.mem_cons, List.mem_nil_iff, or_false] at ho; first | (subst ho; rfl) | (rcases ho with rfl | rfl <;> rfl) | (rcases ho with rfl | rfl | rfl <;> rfl)) | (intro i h; cases h; decide) | simp [alS])) vb_tuple)) (vo_e (T := []) (k := 0) (f := opF (isiD "tuple") [odS [0, 0, 0, 0] 1]) (ve_isi (k := 0) (Ty := "tuple") (by first | decide | (intro i h; cases h; done) | exact Nat.le_refl _ | exact Nat.zero_le _ | (intro o ho; cases ho; done) | (intro o ho; simp only [List.mem_cons, List.mem_nil_iff, or_false] at ho; first | (subst ho; rfl) | (rcases ho with rfl | rfl <;> rfl) | (rcases ho with rfl | rfl | rfl <;> rfl)) | (intro i h; cases h; decide) | simp [alS]) (by rfl) (by exact bn "isinstance" (by first | decide | (intro i h; cases h; done) | exact Nat.le_refl _ | exact Nat.zero_le _ | (intro o ho; cases ho; done) | (intro o ho; simp only [List.mem_cons, List.mem_nil_iff, or_false] at ho; first | (subst ho; rfl) | (rcases ho with rfl | rfl <;> rfl) | (rcases ho with rfl | rfl | rfl <;> rfl)) | (intro i h; cases h; decide) | simp [alS])) (xo 1) (by rfl) (by exact bn "tuple" (by first | decide | (intro i h; cases h; done) | exact Nat.le_refl _ | exact Nat.zero_le _ | (intro o ho; cases ho; done) | (intro o ho; simp only [List.mem_cons, List.mem_nil_iff, or_false] at ho; first | (subst ho; rfl) | (rcases ho with rfl | rfl <;> rfl) | (rcases ho with rfl | rfl | rfl <;> rfl)) | (intro i h; cases h; decide) | simp [alS])) vb_tuple)) (by first | decide | (intro i h; cases h; done) | exact Nat.le_refl _ | exact Nat.zero_le _ | (intro o ho; cases ho; done) | (intro o ho; simp only [List.mem_cons, List.mem_nil_iff, or_false] at ho; first | (subst ho; rfl) | (rcases ho with rfl | rfl <;> rfl) | (rcases ho with rfl | rfl | rfl <;> rfl)) | (intro i h; cases h; decide) | simp [alS])))).pt)  (vss_cons (κ1 := [0, 0, 0, 0]) (s := retS (cF (.bl false)))   (vs_ret (T := []) (f := cF (.bl false)) (ve_bl (k := 0)))   (vss_nil))  (vss_nil))   (vss_cons (κ1 := [0, 0, 0, 0]) (s := retS (andV (opF eqD [odE [] 0 (opF lenD [odS [0, 0, 0, 0] 0]), odE [] 0 (opF lenD [odS [0, 0, 0, 0] 1])]) (opF allD [odE [] 1 (lcF (clF (rng1 [odE [] 0 (opF lenD [odS [0, 0, 0, 0] 0])]) [3] (tgN 3) (yesF) (oneF (callF [odE [] 0 (opF ixD [odS [0, 0, 0, 0] 0, odS [0, 0, 0, 0] 3]), odE [] 0 (opF ixD [odS [0, 0, 0, 0] 1, odS [0, 0, 0, 0] 3])] self))))])))   (vs_ret (T := []) (f := andV (opF eqD [odE [] 0 (opF lenD [odS [0, 0, 0, 0] 0]), odE [] 0 (opF lenD [odS [0, 0, 0, 0] 1])]) (opF allD [odE [] 1 (lcF (clF (rng1 [odE [] 0 (opF lenD [odS [0, 0, 0, 0] 0])]) [3] (tgN 3) (yesF) (oneF (callF [odE [] 0 (opF ixD [odS [0, 0, 0, 0] 0, odS [0, 0, 0, 0] 3]), odE [] 0 (opF ixD [odS [0, 0, 0, 0] 1, odS [0, 0, 0, 0] 3])] self))))])) (ve_and (k := 0) (ve_cmp (op_eqA hu) (O_eq (k := 0)) (vo_e (T := []) (k := 0) (f := opF lenD [odS [0, 0, 0, 0] 0]) (ve_callB call_len (O_len (k := 0)) (by rfl) (by exact bn "len" (by first | decide | (intro i h; cases h; done) | exact Nat.le_refl _ | exact Nat.zero_le _ | (intro o ho; cases ho; done) | (intro o ho; simp only [List.mem_cons, List.mem_nil_iff, or_false] at ho; first | (subst ho; rfl) | (rcases ho with rfl | rfl <;> rfl) | (rcases ho with rfl | rfl | rfl <;> rfl)) | (intro i h; cases h; decide) | simp [alS])) vb_len (va_cons (xo 0) (va_nil) (by first | decide | (intro i h; cases h; done) | exact Nat.le_refl _ | exact Nat.zero_le _ | (intro o ho; cases ho; done) | (intro o ho; simp only [List.mem_cons, List.mem_nil_iff, or_false] at ho; first | (subst ho; rfl) | (rcases ho with rfl | rfl <;> rfl) | (rcases ho with rfl | rfl | rfl <;> rfl)) | (intro i h; cases h; decide) | simp [alS])))) (vo_e (T := []) (k := 0) (f := opF lenD [odS [0, 0, 0, 0] 1]) (ve_callB call_len (O_len (k := 0)) (by rfl) (by exact bn "len" (by first | decide | (intro i h; cases h; done) | exact Nat.le_refl _ | exact Nat.zero_le _ | (intro o ho; cases ho; done) | (intro o ho; simp only [List.mem_cons, List.mem_nil_iff, or_false] at ho; first | (subst ho; rfl) | (rcases ho with rfl | rfl <;> rfl) | (rcases ho with rfl | rfl | rfl <;> rfl)) | (intro i h; cases h; decide) | simp [alS])) vb_len (va_cons (xo 1) (va_nil) (by first | decide | (intro i h; cases h; done) | exact Nat.le_refl _ | exact Nat.zero_le _ | (intro o ho; cases ho; done) | (intro o ho; simp only [List.mem_cons, List.mem_nil_iff, or_false] at ho; first | (subst ho; rfl) | (rcases ho with rfl | rfl <;> rfl) | (rcases ho with rfl | rfl | rfl <;> rfl)) | (intro i h; cases h; decide) | simp [alS])))) (by first | decide | (intro i h; cases h; done) | exact Nat.le_refl _ | exact Nat.zero_le _ | (intro o ho; cases ho; done) | (intro o ho; simp only [List.mem_cons, List.mem_nil_iff, or_false] at ho; first | (subst ho; rfl) | (rcases ho with rfl | rfl <;> rfl) | (rcases ho with rfl | rfl | rfl <;> rfl)) | (intro i h; cases h; decide) | simp [alS])) (ve_one (ve_callB (cr_all rfl) (O_all (k := 0) (by first | decide | (intro i h; cases h; done) | exact Nat.le_refl _ | exact Nat.zero_le _ | (intro o ho; cases ho; done) | (intro o ho; simp only [List.mem_cons, List.mem_nil_iff, or_false] at ho; first | (subst ho; rfl) | (rcases ho with rfl | rfl <;> rfl) | (rcases ho with rfl | rfl | rfl <;> rfl)) | (intro i h; cases h; decide) | simp [alS])) (by rfl) (by exact bn "all" (by first | decide | (intro i h; cases h; done) | exact Nat.le_refl _ | exact Nat.zero_le _ | (intro o ho; cases ho; done) | (intro o ho; simp only [List.mem_cons, List.mem_nil_iff, or_false] at ho; first | (subst ho; rfl) | (rcases ho with rfl | rfl <;> rfl) | (rcases ho with rfl | rfl | rfl <;> rfl)) | (intro i h; cases h; decide) | simp [alS])) vb_all (va_cons (vo_e (T := []) (k := 1) (f := lcF (clF (rng1 [odE [] 0 (opF lenD [odS [0, 0, 0, 0] 0])]) [3] (tgN 3) (yesF) (oneF (callF [odE [] 0 (opF ixD [odS [0, 0, 0, 0] 0, odS [0, 0, 0, 0] 3]), odE [] 0 (opF ixD [odS [0, 0, 0, 0] 1, odS [0, 0, 0, 0] 3])] self)))) (ve_lc (κ := [0, 0, 0, 0]) (T0 := []) (T1 := []) (T2 := []) (k := 0) (Φc := [0, 1, 2]) [] [("k", 3)] (by first | decide | (intro i h; cases h; done) | exact Nat.le_refl _ | exact Nat.zero_le _ | (intro o ho; cases ho; done) | (intro o ho; simp only [List.mem_cons, List.mem_nil_iff, or_false] at ho; first | (subst ho; rfl) | (rcases ho with rfl | rfl <;> rfl) | (rcases ho with rfl | rfl | rfl <;> rfl)) | (intro i h; cases h; decide) | simp [alS]) (by first | decide | (intro i h; cases h; done) | exact Nat.le_refl _ | exact Nat.zero_le _ | (intro o ho; cases ho; done) | (intro o ho; simp only [List.mem_cons, List.mem_nil_iff, or_false] at ho; first | (subst ho; rfl) | (rcases ho with rfl | rfl <;> rfl) | (rcases ho with rfl | rfl | rfl <;> rfl)) | (intro i h; cases h; decide) | simp [alS]) (by first | decide | (intro i h; cases h; done) | exact Nat.le_refl _ | exact Nat.zero_le _ | (intro o ho; cases ho; done) | (intro o ho; simp only [List.mem_cons, List.mem_nil_iff, or_false] at ho; first | (subst ho; rfl) | (rcases ho with rfl | rfl <;> rfl) | (rcases ho with rfl | rfl | rfl <;> rfl)) | (intro i h; cases h; decide) | simp [alS]) (by first | decide | (intro i h; cases h; done) | exact Nat.le_refl _ | exact Nat.zero_le _ | (intro o ho; cases ho; done) | (intro o ho; simp only [List.mem_cons, List.mem_nil_iff, or_false] at ho; first | (subst ho; rfl) | (rcases ho with rfl | rfl <;> rfl) | (rcases ho with rfl | rfl | rfl <;> rfl)) | (intro i h; cases h; decide) | simp [alS]) (by first | decide | (intro i h; cases h; done) | exact Nat.le_refl _ | exact Nat.zero_le _ | (intro o ho; cases ho; done) | (intro o ho; simp only [List.mem_cons, List.mem_nil_iff, or_false] at ho; first | (subst ho; rfl) | (rcases ho with rfl | rfl <;> rfl) | (rcases ho with rfl | rfl | rfl <;> rfl)) | (intro i h; cases h; decide) | simp [alS]) (by first | decide | (intro i h; cases h; done) | exact Nat.le_refl _ | exact Nat.zero_le _ | (intro o ho; cases ho; done) | (intro o ho; simp only [List.mem_cons, List.mem_nil_iff, or_false] at ho; first | (subst ho; rfl) | (rcases ho with rfl | rfl <;> rfl) | (rcases ho with rfl | rfl | rfl <;> rfl)) | (intro i h; cases h; decide) | simp [alS]) rfl nd (vi_rng1 (by rfl) (by exact bn "range" (by first | decide | (intro i h; cases h; done) | exact Nat.le_refl _ | exact Nat.zero_le _ | (intro o ho; cases ho; done) | (intro o ho; simp only [List.mem_cons, List.mem_nil_iff, or_false] at ho; first | (subst ho; rfl) | (rcases ho with rfl | rfl <;> rfl) | (rcases ho with rfl | rfl | rfl <;> rfl)) | (intro i h; cases h; decide) | simp [alS])) (va_cons (vo_e (T := []) (k := 0) (f := opF lenD [odS [0, 0, 0, 0] 0]) (ve_callB call_len (O_len (k := 0)) (by rfl) (by exact bn "len" (by first | decide | (intro i h; cases h; done) | exact Nat.le_refl _ | exact Nat.zero_le _ | (intro o ho; cases ho; done) | (intro o ho; simp only [List.mem_cons, List.mem_nil_iff, or_false] at ho; first | (subst ho; rfl) | (rcases ho with rfl | rfl <;> rfl) | (rcases ho with rfl | rfl | rfl <;> rfl)) | (intro i h; cases h; decide) | simp [alS])) vb_len (va_cons (xo 0) (va_nil) (by first | decide | (intro i h; cases h; done) | exact Nat.le_refl _ | exact Nat.zero_le _ | (intro o ho; cases ho; done) | (intro o ho; simp only [List.mem_cons, List.mem_nil_iff, or_false] at ho; first | (subst ho; rfl) | (rcases ho with rfl | rfl <;> rfl) | (rcases ho with rfl | rfl | rfl <;> rfl)) | (intro i h; cases h; decide) | simp [alS])))) (va_nil) (by first | decide | (intro i h; cases h; done) | exact Nat.le_refl _ | exact Nat.zero_le _ | (intro o ho; cases ho; done) | (intro o ho; simp only [List.mem_cons, List.mem_nil_iff, or_false] at ho; first | (subst ho; rfl) | (rcases ho with rfl | rfl <;> rfl) | (rcases ho with rfl | rfl | rfl <;> rfl)) | (intro i h; cases h; decide) | simp [alS]))) (blkOk_by (by kernel_rfl)) (fun s0 H0 C0 cl0 fp0 => vg_name (i := 3) (κ' := [0, 0, 0, 0]) (by first | decide | (intro i h; cases h; done) | exact Nat.le_refl _ | exact Nat.zero_le _ | (intro o ho; cases ho; done) | (intro o ho; simp only [List.mem_cons, List.mem_nil_iff, or_false] at ho; first | (subst ho; rfl) | (rcases ho with rfl | rfl <;> rfl) | (rcases ho with rfl | rfl | rfl <;> rfl)) | (intro i h; cases h; decide) | simp [alS]) (by first | decide | (intro i h; cases h; done) | exact Nat.le_refl _ | exact Nat.zero_le _ | (intro o ho; cases ho; done) | (intro o ho; simp only [List.mem_cons, List.mem_nil_iff, or_false] at ho; first | (subst ho; rfl) | (rcases ho with rfl | rfl <;> rfl) | (rcases ho with rfl | rfl | rfl <;> rfl)) | (intro i h; cases h; decide) | simp [alS]) rfl nd rfl (by first | exact Or.inl rfl | exact Or.inr rfl)) (fun s0 H0 C0 cl0 fp0 => vts_nil) (fun s0 H0 C0 cl0 fp0 => ve_fn (k := 0) (fn := self) C_self hr (va_cons (vo_e (T := []) (k := 0) (f := opF ixD [odS [0, 0, 0, 0] 0, odS [0, 0, 0, 0] 3]) (ve_ix ix_seq (O_ix (by first | decide | (intro i h; cases h; done) | exact Nat.le_refl _ | exact Nat.zero_le _ | (intro o ho; cases ho; done) | (intro o ho; simp only [List.mem_cons, List.mem_nil_iff, or_false] at ho; first | (subst ho; rfl) | (rcases ho with rfl | rfl <;> rfl) | (rcases ho with rfl | rfl | rfl <;> rfl)) | (intro i h; cases h; decide) | simp [alS])) (xo 0) (xo 3) (by first | decide | (intro i h; cases h; done) | exact Nat.le_refl _ | exact Nat.zero_le _ | (intro o ho; cases ho; done) | (intro o ho; simp only [List.mem_cons, List.mem_nil_iff, or_false] at ho; first | (subst ho; rfl) | (rcases ho with rfl | rfl <;> rfl) | (rcases ho with rfl | rfl | rfl <;> rfl)) | (intro i h; cases h; decide) | simp [alS]))) (va_cons (vo_e (T := []) (k := 0) (f := opF ixD [odS [0, 0, 0, 0] 1, odS [0, 0, 0, 0] 3]) (ve_ix ix_seq (O_ix (by first | decide | (intro i h; cases h; done) | exact Nat.le_refl _ | exact Nat.zero_le _ | (intro o ho; cases ho; done) | (intro o ho; simp only [List.mem_cons, List.mem_nil_iff, or_false] at ho; first | (subst ho; rfl) | (rcases ho with rfl | rfl <;> rfl) | (rcases ho with rfl | rfl | rfl <;> rfl)) | (intro i h; cases h; decide) | simp [alS])) (xo 1) (xo 3) (by first | decide | (intro i h; cases h; done) | exact Nat.le_refl _ | exact Nat.zero_le _ | (intro o ho; cases ho; done) | (intro o ho; simp only [List.mem_cons, List.mem_nil_iff, or_false] at ho; first | (subst ho; rfl) | (rcases ho with rfl | rfl <;> rfl) | (rcases ho with rfl | rfl | rfl <;> rfl)) | (intro i h; cases h; decide) | simp [alS]))) (va_nil) (by first | decide | (intro i h; cases h; done) | exact Nat.le_refl _ | exact Nat.zero_le _ | (intro o ho; cases ho; done) | (intro o ho; simp only [List.mem_cons, List.mem_nil_iff, or_false] at ho; first | (subst ho; rfl) | (rcases ho with rfl | rfl <;> rfl) | (rcases ho with rfl | rfl | rfl <;> rfl)) | (intro i h; cases h; decide) | simp [alS])) (by first | decide | (intro i h; cases h; done) | exact Nat.le_refl _ | exact Nat.zero_le _ | (intro o ho; cases ho; done) | (intro o ho; simp only [List.mem_cons, List.mem_nil_iff, or_false] at ho; first | (subst ho; rfl) | (rcases ho with rfl | rfl <;> rfl) | (rcases ho with rfl | rfl | rfl <;> rfl)) | (intro i h; cases h; decide) | simp [alS]))))) (va_nil) (by first | decide | (intro i h; cases h; done) | exact Nat.le_refl _ | exact Nat.zero_le _ | (intro o ho; cases ho; done) | (intro o ho; simp only [List.mem_cons, List.mem_nil_iff, or_false] at ho; first | (subst ho; rfl) | (rcases ho with rfl | rfl <;> rfl) | (rcases ho with rfl | rfl | rfl <;> rfl)) | (intro i h; cases h; decide) | simp [alS]))))))   (vss_nil)))  (vss_nil))   (vss_cons (κ1 := [0, 0, 0, 0]) (s := ifS (orF (tstF (opF isND [odS [0, 0, 0, 0] 0, odE [] 0 (cF .non)])) (tstF (opF isND [odS [0, 0, 0, 0] 1, odE [] 0 (cF .non)]))) (seqS (retS (andV (opF isND [odS [0, 0, 0, 0] 0, odE [] 0 (cF .non)]) (opF isND [odS [0, 0, 0, 0] 1, odE [] 0 (cF .non)]))) (nilS)) (nilS))   (vs_if (T := []) (t := orF (tstF (opF isND [odS [0, 0, 0, 0] 0, odE [] 0 (cF .non)])) (tstF (opF isND [odS [0, 0, 0, 0] 1, odE [] 0 (cF .non)]))) ((vw_or (vt_cmp op_isN (O_isN ) (xo 0) (vo_e (T := []) (k := 0) (f := cF .non) (ve_non (k := 0))) (by first | decide | (intro i h; cases h; done) | exact Nat.le_refl _ | exact Nat.zero_le _ | (intro o ho; cases ho; done) | (intro o ho; simp only [List.mem_cons, List.mem_nil_iff, or_false] at ho; first | (subst ho; rfl) | (rcases ho with rfl | rfl <;> rfl) | (rcases ho with rfl | rfl | rfl <;> rfl)) | (intro i h; cases h; decide) | simp [alS])) (vw_or1 (vt_cmp op_isN (O_isN ) (xo 1) (vo_e (T := []) (k := 0) (f := cF .non) (ve_non (k := 0))) (by first | decide | (intro i h; cases h; done) | exact Nat.le_refl _ | exact Nat.zero_le _ | (intro o ho; cases ho; done) | (intro o ho; simp only [List.mem_cons, List.mem_nil_iff, or_false] at ho; first | (subst ho; rfl) | (rcases ho with rfl | rfl <;> rfl) | (rcases ho with rfl | rfl | rfl <;> rfl)) | (intro i h; cases h; decide) | simp [alS])))).pt)  (vss_cons (κ1 := [0, 0, 0, 0]) (s := retS (andV (opF isND [odS [0, 0, 0, 0] 0, odE [] 0 (cF .non)]) (opF isND [odS [0, 0, 0, 0] 1, odE [] 0 (cF .non)])))   (vs_ret (T := []) (f := andV (opF isND [odS [0, 0, 0, 0] 0, odE [] 0 (cF .non)]) (opF isND [odS [0, 0, 0, 0] 1, odE [] 0 (cF .non)])) (ve_and (k := 0) (ve_cmp op_isN (O_isN (k := 0)) (xo 0) (vo_e (T := []) (k := 0) (f := cF .non) (ve_non (k := 0))) (by first | decide | (intro i h; cases h; done) | exact Nat.le_refl _ | exact Nat.zero_le _ | (intro o ho; cases ho; done) | (intro o ho; simp only [List.mem_cons, List.mem_nil_iff, or_false] at ho; first | (subst ho; rfl) | (rcases ho with rfl | rfl <;> rfl) | (rcases ho with rfl | rfl | rfl <;> rfl)) | (intro i h; cases h; decide) | simp [alS])) (ve_one (ve_cmp op_isN (O_isN (k := 0)) (xo 1) (vo_e (T := []) (k := 0) (f := cF .non) (ve_non (k := 0))) (by first | decide | (intro i h; cases h; done) | exact Nat.le_refl _ | exact Nat.zero_le _ | (intro o ho; cases ho; done) | (intro o ho; simp only [List.mem_cons, List.mem_nil_iff, or_false] at ho; first | (subst ho; rfl) | (rcases ho with rfl | rfl <;> rfl) | (rcases ho with rfl | rfl | rfl <;> rfl)) | (intro i h; cases h; decide) | simp [alS])))))   (vss_nil))  (vss_nil))   (vss_cons (κ1 := [0, 0, 0, 0]) (s := setS 2 (andV (opF eqD [odE [] 0 (opF (isiD "str") [odS [0, 0, 0, 0] 0]), odE [] 0 (opF (isiD "str") [odS [0, 0, 0, 0] 1])]) (opF eqD [odE [] 0 (opF (isiD "bool") [odS [0, 0, 0, 0] 0]), odE [] 0 (opF (isiD "bool") [odS [0, 0, 0, 0] 1])])))   (vs_set (i := 2) (T := []) (j := 0) (f := andV (opF eqD [odE [] 0 (opF (isiD "str") [odS [0, 0, 0, 0] 0]), odE [] 0 (opF (isiD "str") [odS [0, 0, 0, 0] 1])]) (opF eqD [odE [] 0 (opF (isiD "bool") [odS [0, 0, 0, 0] 0]), odE [] 0 (opF (isiD "bool") [odS [0, 0, 0, 0] 1])])) (by first | decide | (intro i h; cases h; done) | exact Nat.le_refl _ | exact Nat.zero_le _ | (intro o ho; cases ho; done) | (intro o ho; simp only [List.mem_cons, List.mem_nil_iff, or_false] at ho; first | (subst ho; rfl) | (rcases ho with rfl | rfl <;> rfl) | (rcases ho with rfl | rfl | rfl <;> rfl)) | (intro i h; cases h; decide) | simp [alS]) (by first | decide | (intro i h; cases h; done) | exact Nat.le_refl _ | exact Nat.zero_le _ | (intro o ho; cases ho; done) | (intro o ho; simp only [List.mem_cons, List.mem_nil_iff, or_false] at ho; first | (subst ho; rfl) | (rcases ho with rfl | rfl <;> rfl) | (rcases ho with rfl | rfl | rfl <;> rfl)) | (intro i h; cases h; decide) | simp [alS]) nd rfl (by first | exact Or.inl rfl | exact Or.inr rfl) (ve_and (k := 0) (ve_cmp (op_eqA hu) (O_eq (k := 0)) (vo_e (T := []) (k := 0) (f := opF (isiD "str") [odS [0, 0, 0, 0] 0]) (ve_isi (k := 0) (Ty := "str") (by first | decide | (intro i h; cases h; done) | exact Nat.le_refl _ | exact Nat.zero_le _ | (intro o ho; cases ho; done) | (intro o ho; simp only [List.mem_cons, List.mem_nil_iff, or_false] at ho; first | (subst ho; rfl) | (rcases ho with rfl | rfl <;> rfl) | (rcases ho with rfl | rfl | rfl <;> rfl)) | (intro i h; cases h; decide) | simp [alS]) (by rfl) (by exact bn "isinstance" (by first | decide | (intro i h; cases h; done) | exact Nat.le_refl _ | exact Nat.zero_le _ | (intro o ho; cases ho; done) | (intro o ho; simp only [List.mem_cons, List.mem_nil_iff, or_false] at ho; first | (subst ho; rfl) | (rcases ho with rfl | rfl <;> rfl) | (rcases ho with rfl | rfl | rfl <;> rfl)) | (intro i h; cases h; decide) | simp [alS])) (xo 0) (by rfl) (by exact bn "str" (by first | decide | (intro i h; cases h; done) | exact Nat.le_refl _ | exact Nat.zero_le _ | (intro o ho; cases ho; done) | (intro o ho; simp only [List.mem_cons, List.mem_nil_iff, or_false] at ho; first | (subst ho; rfl) | (rcases ho with rfl | rfl <;> rfl) | (rcases ho with rfl | rfl | rfl <;> rfl)) | (intro i h; cases h; decide) | simp [alS])) vb_str)) (vo_e (T := []) (k := 0) (f := opF (isiD "str") [odS [0, 0, 0, 0] 1]) (ve_isi (k := 0) (Ty := "str") (by first | decide | (intro i h; cases h; done) | exact Nat.le_refl _ | exact Nat.zero_le _ | (intro o ho; cases ho; done) | (intro o ho; simp only [List.mem_cons, List.mem_nil_iff, or_false] at ho; first | (subst ho; rfl) | (rcases ho with rfl | rfl <;> rfl) | (rcases ho with rfl | rfl | rfl <;> rfl)) | (intro i h; cases h; decide) | simp [alS]) (by rfl) (by exact bn "isinstance" (by first | decide | (intro i h; cases h; done) | exact Nat.le_refl _ | exact Nat.zero_le _ | (intro o ho; cases ho; done) | (intro o ho; simp only [List.mem_cons, List.mem_nil_iff, or_false] at ho; first | (subst ho; rfl) | (rcases ho with rfl | rfl <;> rfl) | (rcases ho with rfl | rfl | rfl <;> rfl)) | (intro i h; cases h; decide) | simp [alS])) (xo 1) (by rfl) (by exact bn "str" (by first | decide | (intro i h; cases h; done) | exact Nat.le_refl _ | exact Nat.zero_le _ | (intro o ho; cases ho; done) | (intro o ho; simp only [List.mem_cons, List.mem_nil_iff, or_false] at ho; first | (subst ho; rfl) | (rcases ho with rfl | rfl <;> rfl) | (rcases ho with rfl | rfl | rfl <;> rfl)) | (intro i h; cases h; decide) | simp [alS])) vb_str)) (by first | decide | (intro i h; cases h; done) | exact Nat.le_refl _ | exact Nat.zero_le _ | (intro o ho; cases ho; done) | (intro o ho; simp only [List.mem_cons, List.mem_nil_iff, or_false] at ho; first | (subst ho; rfl) | (rcases ho with rfl | rfl <;> rfl) | (rcases ho with rfl | rfl | rfl <;> rfl)) | (intro i h; cases h; decide) | simp [alS])) (ve_one (ve_cmp (op_eqA hu) (O_eq (k := 0)) (vo_e (T := []) (k := 0) (f := opF (isiD "bool") [odS [0, 0, 0, 0] 0]) (ve_isi (k := 0) (Ty := "bool") (by first | decide | (intro i h; cases h; done) | exact Nat.le_refl _ | exact Nat.zero_le _ | (intro o ho; cases ho; done) | (intro o ho; simp only [List.mem_cons, List.mem_nil_iff, or_false] at ho; first | (subst ho; rfl) | (rcases ho with rfl | rfl <;> rfl) | (rcases ho with rfl | rfl | rfl <;> rfl)) | (intro i h; cases h; decide) | simp [alS]) (by rfl) (by exact bn "isinstance" (by first | decide | (intro i h; cases h; done) | exact Nat.le_refl _ | exact Nat.zero_le _ | (intro o ho; cases ho; done) | (intro o ho; simp only [List.mem_cons, List.mem_nil_iff, or_false] at ho; first | (subst ho; rfl) | (rcases ho with rfl | rfl <;> rfl) | (rcases ho with rfl | rfl | rfl <;> rfl)) | (intro i h; cases h; decide) | simp [alS])) (xo 0) (by rfl) (by exact bn "bool" (by first | decide | (intro i h; cases h; done) | exact Nat.le_refl _ | exact Nat.zero_le _ | (intro o ho; cases ho; done) | (intro o ho; simp only [List.mem_cons, List.mem_nil_iff, or_false] at ho; first | (subst ho; rfl) | (rcases ho with rfl | rfl <;> rfl) | (rcases ho with rfl | rfl | rfl <;> rfl)) | (intro i h; cases h; decide) | simp [alS])) vb_bool)) (vo_e (T := []) (k := 0) (f := opF (isiD "bool") [odS [0, 0, 0, 0] 1]) (ve_isi (k := 0) (Ty := "bool") (by first | decide | (intro i h; cases h; done) | exact Nat.le_refl _ | exact Nat.zero_le _ | (intro o ho; cases ho; done) | (intro o ho; simp only [List.mem_cons, List.mem_nil_iff, or_false] at ho; first | (subst ho; rfl) | (rcases ho with rfl | rfl <;> rfl) | (rcases ho with rfl | rfl | rfl <;> rfl)) | (intro i h; cases h; decide) | simp [alS]) (by rfl) (by exact bn "isinstance" (by first | decide | (intro i h; cases h; done) | exact Nat.le_refl _ | exact Nat.zero_le _ | (intro o ho; cases ho; done) | (intro o ho; simp only [List.mem_cons, List.mem_nil_iff, or_false] at ho; first | (subst ho; rfl) | (rcases ho with rfl | rfl <;> rfl) | (rcases ho with rfl | rfl | rfl <;> rfl)) | (intro i h; cases h; decide) | simp [alS])) (xo 1) (by rfl) (by exact bn "bool" (by first | decide | (intro i h; cases h; done) | exact Nat.le_refl _ | exact Nat.zero_le _ | (intro o ho; cases ho; done) | (intro o ho; simp only [List.mem_cons, List.mem_nil_iff, or_false] at ho; first | (subst ho; rfl) | (rcases ho with rfl | rfl <;> rfl) | (rcases ho with rfl | rfl | rfl <;> rfl)) | (intro i h; cases h; decide) | simp [alS])) vb_bool)) (by first | decide | (intro i h; cases h; done) | exact Nat.le_refl _ | exact Nat.zero_le _ | (intro o ho; cases ho; done) | (intro o ho; simp only [List.mem_cons, List.mem_nil_iff, or_false] at ho; first | (subst ho; rfl) | (rcases ho with rfl | rfl <;> rfl) | (rcases ho with rfl | rfl | rfl <;> rfl)) | (intro i h; cases h; decide) | simp [alS])))))   (vss_cons (κ1 := [0, 0, 0, 0]) (s := retS (andV (rd 2) (andV (opF eqD [odE [] 0 (opF (isiD "int") [odS [0, 0, 0, 0] 0]), odE [] 0 (opF (isiD "int") [odS [0, 0, 0, 0] 1])]) (opF eqD [odS [0, 0, 0, 0] 0, odS [0, 0, 0, 0] 1]))))   (vs_ret (T := []) (f := andV (rd 2) (andV (opF eqD [odE [] 0 (opF (isiD "int") [odS [0, 0, 0, 0] 0]), odE [] 0 (opF (isiD "int") [odS [0, 0, 0, 0] 1])]) (opF eqD [odS [0, 0, 0, 0] 0, odS [0, 0, 0, 0] 1]))) (ve_and (k := 0) (xv 2) (ve_and (k := 0) (ve_cmp (op_eqA hu) (O_eq (k := 0)) (vo_e (T := []) (k := 0) (f := opF (isiD "int") [odS [0, 0, 0, 0] 0]) (ve_isi (k := 0) (Ty := "int") (by first | decide | (intro i h; cases h; done) | exact Nat.le_refl _ | exact Nat.zero_le _ | (intro o ho; cases ho; done) | (intro o ho; simp only [List.mem_cons, List.mem_nil_iff, or_false] at ho; first | (subst ho; rfl) | (rcases ho with rfl | rfl <;> rfl) | (rcases ho with rfl | rfl | rfl <;> rfl)) | (intro i h; cases h; decide) | simp [alS]) (by rfl) (by exact bn "isinstance" (by first | decide | (intro i h; cases h; done) | exact Nat.le_refl _ | exact Nat.zero_le _ | (intro o ho; cases ho; done) | (intro o ho; simp only [List.mem_cons, List.mem_nil_iff, or_false] at ho; first | (subst ho; rfl) | (rcases ho with rfl | rfl <;> rfl) | (rcases ho with rfl | rfl | rfl <;> rfl)) | (intro i h; cases h; decide) | simp [alS])) (xo 0) (by rfl) (by exact bn "int" (by first | decide | (intro i h; cases h; done) | exact Nat.le_refl _ | exact Nat.zero_le _ | (intro o ho; cases ho; done) | (intro o ho; simp only [List.mem_cons, List.mem_nil_iff, or_false] at ho; first | (subst ho; rfl) | (rcases ho with rfl | rfl <;> rfl) | (rcases ho with rfl | rfl | rfl <;> rfl)) | (intro i h; cases h; decide) | simp [alS])) vb_int)) (vo_e (T := []) (k := 0) (f := opF (isiD "int") [odS [0, 0, 0, 0] 1]) (ve_isi (k := 0) (Ty := "int") (by first | decide | (intro i h; cases h; done) | exact Nat.le_refl _ | exact Nat.zero_le _ | (intro o ho; cases ho; done) | (intro o ho; simp only [List.mem_cons, List.mem_nil_iff, or_false] at ho; first | (subst ho; rfl) | (rcases ho with rfl | rfl <;> rfl) | (rcases ho with rfl | rfl | rfl <;> rfl)) | (intro i h; cases h; decide) | simp [alS]) (by rfl) (by exact bn "isinstance" (by first | decide | (intro i h; cases h; done) | exact Nat.le_refl _ | exact Nat.zero_le _ | (intro o ho; cases ho; done) | (intro o ho; simp only [List.mem_cons, List.mem_nil_iff, or_false] at ho; first | (subst ho; rfl) | (rcases ho with rfl | rfl <;> rfl) | (rcases ho with rfl | rfl | rfl <;> rfl)) | (intro i h; cases h; decide) | simp [alS])) (xo 1) (by rfl) (by exact bn "int" (by first | decide | (intro i h; cases h; done) | exact Nat.le_refl _ | exact Nat.zero_le _ | (intro o ho; cases ho; done) | (intro o ho; simp only [List.mem_cons, List.mem_nil_iff, or_false] at ho; first | (subst ho; rfl) | (rcases ho with rfl | rfl <;> rfl) | (rcases ho with rfl | rfl | rfl <;> rfl)) | (intro i h; cases h; decide) | simp [alS])) vb_int)) (by first | decide | (intro i h; cases h; done) | exact Nat.le_refl _ | exact Nat.zero_le _ | (intro o ho; cases ho; done) | (intro o ho; simp only [List.mem_cons, List.mem_nil_iff, or_false] at ho; first | (subst ho; rfl) | (rcases ho with rfl | rfl <;> rfl) | (rcases ho with rfl | rfl | rfl <;> rfl)) | (intro i h; cases h; decide) | simp [alS])) (ve_one (ve_cmp (op_eqA hu) (O_eq (k := 0)) (xo 0) (xo 1) (by first | decide | (intro i h; cases h; done) | exact Nat.le_refl _ | exact Nat.zero_le _ | (intro o ho; cases ho; done) | (intro o ho; simp only [List.mem_cons, List.mem_nil_iff, or_false] at ho; first | (subst ho; rfl) | (rcases ho with rfl | rfl <;> rfl) | (rcases ho with rfl | rfl | rfl <;> rfl)) | (intro i h; cases h; decide) | simp [alS]))))))   (vss_nil))))
    exact ⟨fa, fd, _, h, hm, F.kp, hb⟩
abbrev s_ulaw_heaps : Stmt := topS 30
abbrev N_ulaw_heaps : List Str := ["a", "b", "c", "lines", "k", "out", "more", "line", "rows", "entry", "j"]
theorem sc_ulaw_heaps : FnScope N_ulaw_heaps ["a", "b", "c"] (defScope s_ulaw_heaps) := ⟨rfl, rfl, rfl, by decide +kernel, rfl, by decide +kernel, by decide +kernel⟩
def S_ulaw_heaps : SemS := seqS (setS 3 (opF lstD [odE [] 0 (opF tupD [])])) (seqS (forS (rng1 [odS [0, 0, 0, 0, 0, 0, 0, 0, 0, 0, 0] 1]) (tgN 4) (seqS (setS 6 (opF lstD [])) (seqS (forS (seqSrc (rd 3)) (tgN 7) (seqS (setS 6 (opF addD [odS [0, 0, 0, 0, 0, 0, 0, 0, 0, 0, 0] 6, odE [] 1 (lcF (clF (rng1 [odE [] 1 (opF addD [odS [0, 0, 0, 0, 0, 0, 0, 0, 0, 0, 0] 2, odE [] 0 (cF (.int 1))])]) [9] (tgN 9) (orF (tstF (opF eqD [odS [0, 0, 0, 0, 0, 0, 0, 0, 0, 0, 0] 7, odE [] 0 (opF tupD [])])) (tstF (opF leD [odS [0, 0, 0, 0, 0, 0, 0, 0, 0, 0, 0] 9, odE [] 0 (opF ixD [odS [0, 0, 0, 0, 0, 0, 0, 0, 0, 0, 0] 7, odE [] 0 (opF subD [odE [] 0 (opF lenD [odS [0, 0, 0, 0, 0, 0, 0, 0, 0, 0, 0] 7]), odE [] 0 (cF (.int 1))])])]))) (oneF (opF addD [odS [0, 0, 0, 0, 0, 0, 0, 0, 0, 0, 0] 7, odE [] 0 (opF tupD [odE [] 0 (rd 9)])]))))])) (nilS))) (seqS (setS 3 (rd 6)) (nilS))))) (seqS (setS 5 (opF lstD [odE [] 0 (opF tupD [])])) (seqS (forS (rng1 [odS [0, 0, 0, 0, 0, 0, 0, 0, 0, 0, 0] 0]) (tgN 4) (seqS (setS 6 (opF lstD [])) (seqS (forS (seqSrc (rd 5)) (tgN 8) (seqS (setS 6 (opF addD [odS [0, 0, 0, 0, 0, 0, 0, 0, 0, 0, 0] 6, odE [] 1 (lcF (clF (seqSrc (rd 3)) [7] (tgN 7) (orF (tstF (opF eqD [odS [0, 0, 0, 0, 0, 0, 0, 0, 0, 0, 0] 8, odE [] 0 (opF tupD [])])) (truO (odE [] 0 (opF allD [odE [] 1 (lcF (clF (rng1 [odS [0, 0, 0, 0, 0, 0, 0, 0, 0, 0, 0] 1]) [10] (tgN 10) (yesF) (oneF (opF leD [odE [] 0 (opF ixD [odS [0, 0, 0, 0, 0, 0, 0, 0, 0, 0, 0] 7, odS [0, 0, 0, 0, 0, 0, 0, 0, 0, 0, 0] 10]), odE [] 0 (opF ixD [odE [] 0 (opF ixD [odS [0, 0, 0, 0, 0, 0, 0, 0, 0, 0, 0] 8, odE [] 0 (opF subD [odE [] 0 (opF lenD [odS [0, 0, 0, 0, 0, 0, 0, 0, 0, 0, 0] 8]), odE [] 0 (cF (.int 1))])]), odS [0, 0, 0, 0, 0, 0, 0, 0, 0, 0, 0] 10])]))))])))) (oneF (opF addD [odS [0, 0, 0, 0, 0, 0, 0, 0, 0, 0, 0] 8, odE [] 0 (opF tupD [odE [] 0 (rd 7)])]))))])) (nilS))) (seqS (setS 5 (rd 6)) (nilS))))) (seqS (retS (opF (sortedD false) [odS [0, 0, 0, 0, 0, 0, 0, 0, 0, 0, 0] 5])) (nilS)))))
def F_ulaw_heaps : Sem0 := fnF [] N_ulaw_heaps.length S_ulaw_heaps
theorem ok_ulaw_heaps {P : Program} {w : World} {K : PySem.W.Frag} {mg : Str → Option Value} {base : Heap} {fa : Addr} {fd : FuncData} (F : Fun K "_law_heaps" "_law_heaps" s_ulaw_heaps fa fd) (hm : mg "_law_heaps" = some (.ref fa)) (hb : Binds K fd ["a", "b", "c"] []) (bn : ∀ x, x ∈ bnames → mg x = none)  : CalD P w K mg base 1 "_law_heaps" (spD ⟨K, P, w⟩ [] [0, 0, 0] 0 F_ulaw_heaps) := by
  have h : FnOk P w K mg base CX0 1 fa fd ["a", "b", "c"] (spD ⟨K, P, w⟩ [] [0, 0, 0] 0 (fnF [] N_ulaw_heaps.length S_ulaw_heaps)) := by
    refine fn_ok (lv := 0) (N := N_ulaw_heaps) (κ' := [0, 0, 0, 0, 0, 0, 0, 0, 0, 0, 0]) (κp := [0, 0, 0]) (κl := [0, 0, 0, 0, 0, 0, 0, 0]) (Φ := []) (s := S_ulaw_heaps) F sc_ulaw_heaps rfl rfl (zero_out (by decide)) (fun cdv A outer s0 H E hr => ?_)
    have hu := hr.units
    have nd := sc_ulaw_heaps.nd
    exact vss_cons (κ1 := [0, 0, 0, 0, 0, 0, 0, 0, 0, 0, 0]) (s := setS 3 (opF lstD [odE [] 0 (opF tupD [])]))   (vs_set (i := 3) (T := []) (j := 0) (f := opF lstD [odE [] 0 (opF tupD [])]) (by decide) (by decide) nd rfl (by first | exact Or.inl rfl | exact Or.inr rfl) (ve_share (k := 1) (ve_lst (O_lst (by decide)) (va_cons (vo_e (T := []) (k := 0) (f := opF tupD []) (ve_tup (O_tup (k := 0) (by decide)) (va_nil))) (va_nil) (by decide)))))   (vss_cons (κ1 := [0, 0, 0, 0, 0, 0, 0, 0, 0, 0, 0]) (s := forS (rng1 [odS [0, 0, 0, 0, 0, 0, 0, 0, 0, 0, 0] 1]) (tgN 4) (seqS (setS 6 (opF lstD [])) (seqS (forS (seqSrc (rd 3)) (tgN 7) (seqS (setS 6 (opF addD [odS [0, 0, 0, 0, 0, 0, 0, 0, 0, 0, 0] 6, odE [] 1 (lcF (clF (rng1 [odE [] 1 (opF addD [odS [0, 0, 0, 0, 0, 0, 0, 0, 0, 0, 0] 2, odE [] 0 (cF (.int 1))])]) [9] (tgN 9) (orF (tstF (opF eqD [odS [0, 0, 0, 0, 0, 0, 0, 0, 0, 0, 0] 7, odE [] 0 (opF tupD [])])) (tstF (opF leD [odS [0, 0, 0, 0, 0, 0, 0, 0, 0, 0, 0] 9, odE [] 0 (opF ixD [odS [0, 0, 0, 0, 0, 0, 0, 0, 0, 0, 0] 7, odE [] 0 (opF subD [odE [] 0 (opF lenD [odS [0, 0, 0, 0, 0, 0, 0, 0, 0, 0, 0] 7]), odE [] 0 (cF (.int 1))])])]))) (oneF (opF addD [odS [0, 0, 0, 0, 0, 0, 0, 0, 0, 0, 0] 7, odE [] 0 (opF tupD [odE [] 0 (rd 9)])]))))])) (nilS))) (seqS (setS 3 (rd 6)) (nilS)))))   (vs_for (T := []) (f := rng1 [odS [0, 0, 0, 0, 0, 0, 0, 0, 0, 0, 0] 1]) (m := tgN 4) PassesOwn.never rfl (vi_rng1 (by rfl) (by exact bn "range" (by decide)) (va_cons (xo 1) (va_nil) (by decide))) (vg_name (i := 4) (κ' := [0, 0, 0, 0, 0, 0, 0, 0, 0, 0, 0]) (by decide) (by decide) rfl nd rfl (by first | exact Or.inl rfl | exact Or.inr rfl))  (vss_cons (κ1 := [0, 0, 0, 0, 0, 0, 0, 0, 0, 0, 0]) (s := setS 6 (opF lstD []))   (vs_set (i := 6) (T := []) (j := 0) (f := opF lstD []) (by decide) (by decide) nd rfl (by first | exact Or.inl rfl | exact Or.inr rfl) (ve_share (k := 1) (ve_lst (O_lst (by decide)) (va_nil))))   (vss_cons (κ1 := [0, 0, 0, 0, 0, 0, 0, 0, 0, 0, 0]) (s := forS (seqSrc (rd 3)) (tgN 7) (seqS (setS 6 (opF addD [odS [0, 0, 0, 0, 0, 0, 0, 0, 0, 0, 0] 6, odE [] 1 (lcF (clF (rng1 [odE [] 1 (opF addD [odS [0, 0, 0, 0, 0, 0, 0, 0, 0, 0, 0] 2, odE [] 0 (cF (.int 1))])]) [9] (tgN 9) (orF (tstF (opF eqD [odS [0, 0, 0, 0, 0, 0, 0, 0, 0, 0, 0] 7, odE [] 0 (opF tupD [])])) (tstF (opF leD [odS [0, 0, 0, 0, 0, 0, 0, 0, 0, 0, 0] 9, odE [] 0 (opF ixD [odS [0, 0, 0, 0, 0, 0, 0, 0, 0, 0, 0] 7, odE [] 0 (opF subD [odE [] 0 (opF lenD [odS [0, 0, 0, 0, 0, 0, 0, 0, 0, 0, 0] 7]), odE [] 0 (cF (.int 1))])])]))) (oneF (opF addD [odS [0, 0, 0, 0, 0, 0, 0, 0, 0, 0, 0] 7, odE [] 0 (opF tupD [odE [] 0 (rd 9)])]))))])) (nilS)))   (vs_for (T := []) (f := seqSrc (rd 3)) (m := tgN 7) PassesOwn.never rfl (vi_seq (xv 3)) (vg_name (i := 7) (κ' := [0, 0, 0, 0, 0, 0, 0, 0, 0, 0, 0]) (by decide) (by decide) rfl nd rfl (by first | exact Or.inl rfl | exact Or.inr rfl))  (vss_cons (κ1 := [0, 0, 0, 0, 0, 0, 0, 0, 0, 0, 0]) (s := setS 6 (opF addD [odS [0, 0, 0, 0, 0, 0, 0, 0, 0, 0, 0] 6, odE [] 1 (lcF (clF (rng1 [odE [] 1 (opF addD [odS [0, 0, 0, 0, 0, 0, 0, 0, 0, 0, 0] 2, odE [] 0 (cF (.int 1))])]) [9] (tgN 9) (orF (tstF (opF eqD [odS [0, 0, 0, 0, 0, 0, 0, 0, 0, 0, 0] 7, odE [] 0 (opF tupD [])])) (tstF (opF leD [odS [0, 0, 0, 0, 0, 0, 0, 0, 0, 0, 0] 9, odE [] 0 (opF ixD [odS [0, 0, 0, 0, 0, 0, 0, 0, 0, 0, 0] 7, odE [] 0 (opF subD [odE [] 0 (opF lenD [odS [0, 0, 0, 0, 0, 0, 0, 0, 0, 0, 0] 7]), odE [] 0 (cF (.int 1))])])]))) (oneF (opF addD [odS [0, 0, 0, 0, 0, 0, 0, 0, 0, 0, 0] 7, odE [] 0 (opF tupD [odE [] 0 (rd 9)])]))))]))   (vs_set (i := 6) (T := []) (j := 0) (f := opF addD [odS [0, 0, 0, 0, 0, 0, 0, 0, 0, 0, 0] 6, odE [] 1 (lcF (clF (rng1 [odE [] 1 (opF addD [odS [0, 0, 0, 0, 0, 0, 0, 0, 0, 0, 0] 2, odE [] 0 (cF (.int 1))])]) [9] (tgN 9) (orF (tstF (opF eqD [odS [0, 0, 0, 0, 0, 0, 0, 0, 0, 0, 0] 7, odE [] 0 (opF tupD [])])) (tstF (opF leD [odS [0, 0, 0, 0, 0, 0, 0, 0, 0, 0, 0] 9, odE [] 0 (opF ixD [odS [0, 0, 0, 0, 0, 0, 0, 0, 0, 0, 0] 7, odE [] 0 (opF subD [odE [] 0 (opF lenD [odS [0, 0, 0, 0, 0, 0, 0, 0, 0, 0, 0] 7]), odE [] 0 (cF (.int 1))])])]))) (oneF (opF addD [odS [0, 0, 0, 0, 0, 0, 0, 0, 0, 0, 0] 7, odE [] 0 (opF tupD [odE [] 0 (rd 9)])]))))]) (by decide) (by decide) nd rfl (by first | exact Or.inl rfl | exact Or.inr rfl) (ve_share (k := 1) (ve_bin op_addA (O_add (by decide) (by decide)) (xo 6) (vo_e (T := []) (k := 1) (f := lcF (clF (rng1 [odE [] 1 (opF addD [odS [0, 0, 0, 0, 0, 0, 0, 0, 0, 0, 0] 2, odE [] 0 (cF (.int 1))])]) [9] (tgN 9) (orF (tstF (opF eqD [odS [0, 0, 0, 0, 0, 0, 0, 0, 0, 0, 0] 7, odE [] 0 (opF tupD [])])) (tstF (opF leD [odS [0, 0, 0, 0, 0, 0, 0, 0, 0, 0, 0] 9, odE [] 0 (opF ixD [odS [0, 0, 0, 0, 0, 0, 0, 0, 0, 0, 0] 7, odE [] 0 (opF subD [odE [] 0 (opF lenD [odS [0, 0, 0, 0, 0, 0, 0, 0, 0, 0, 0] 7]), odE [] 0 (cF (.int 1))])])]))) (oneF (opF addD [odS [0, 0, 0, 0, 0, 0, 0, 0, 0, 0, 0] 7, odE [] 0 (opF tupD [odE [] 0 (rd 9)])])))) (ve_lc (κ := [0, 0, 0, 0, 0, 0, 0, 0, 0, 0, 0]) (T0 := []) (T1 := []) (T2 := []) (k := 0) (Φc := [0, 1, 2, 3, 4, 5, 6, 7, 8, 10]) [] [("entry", 9)] (by decide) (by decide) (by decide) (by decide) (by decide) (by decide) rfl nd (vi_rng1 (by rfl) (by exact bn "range" (by decide)) (va_cons (vo_e (T := []) (k := 1) (f := opF addD [odS [0, 0, 0, 0, 0, 0, 0, 0, 0, 0, 0] 2, odE [] 0 (cF (.int 1))]) (ve_bin op_addA (O_add (by decide) (by decide)) (xo 2) (vo_e (T := []) (k := 0) (f := cF (.int 1)) (ve_int (k := 0))) (by decide))) (va_nil) (by decide))) (blkOk_by (by kernel_rfl)) (fun s0 H0 C0 cl0 fp0 => vg_name (i := 9) (κ' := [0, 0, 0, 0, 0, 0, 0, 0, 0, 0, 0]) (by decide) (by decide) rfl nd rfl (by first | exact Or.inl rfl | exact Or.inr rfl)) (fun s0 H0 C0 cl0 fp0 => vts_one ((vw_or (vt_cmp (op_eqA hu) (O_eq ) (xo 7) (vo_e (T := []) (k := 0) (f := opF tupD []) (ve_tup (O_tup (k := 0) (by decide)) (va_nil))) (by decide)) (vw_or1 (vt_cmp op_le (O_le ) (xo 9) (vo_e (T := []) (k := 0) (f := opF ixD [odS [0, 0, 0, 0, 0, 0, 0, 0, 0, 0, 0] 7, odE [] 0 (opF subD [odE [] 0 (opF lenD [odS [0, 0, 0, 0, 0, 0, 0, 0, 0, 0, 0] 7]), odE [] 0 (cF (.int 1))])]) (ve_ix ix_seq (O_ix (by decide)) (xo 7) (vo_e (T := []) (k := 0) (f := opF subD [odE [] 0 (opF lenD [odS [0, 0, 0, 0, 0, 0, 0, 0, 0, 0, 0] 7]), odE [] 0 (cF (.int 1))]) (ve_bin op_sub (O_sub (k := 0)) (vo_e (T := []) (k := 0) (f := opF lenD [odS [0, 0, 0, 0, 0, 0, 0, 0, 0, 0, 0] 7]) (ve_callB call_len (O_len (k := 0)) (by rfl) (by exact bn "len" (by decide)) vb_len (va_cons (xo 7) (va_nil) (by decide)))) (vo_e (T := []) (k := 0) (f := cF (.int 1)) (ve_int (k := 0))) (by decide))) (by decide))) (by decide)))).pt)) (fun s0 H0 C0 cl0 fp0 => ve_share (k := 1) (ve_bin op_addA (O_add (by decide) (by decide)) (xo 7) (vo_e (T := []) (k := 0) (f := opF tupD [odE [] 0 (rd 9)]) (ve_tup (O_tup (k := 0) (by decide)) (va_cons (vo_e (T := []) (k := 0) (f := rd 9) (xv 9)) (va_nil) (by decide)))) (by decide))))) (by decide))))   (vss_nil)))   (vss_cons (κ1 := [0, 0, 0, 0, 0, 0, 0, 0, 0, 0, 0]) (s := setS 3 (rd 6))   (vs_set (i := 3) (T := []) (j := 0) (f := rd 6) (by decide) (by decide) nd rfl (by first | exact Or.inl rfl | exact Or.inr rfl) (xv 6))   (vss_nil)))))   (vss_cons (κ1 := [0, 0, 0, 0, 0, 0, 0, 0, 0, 0, 0]) (s := setS 5 (opF lstD [odE [] 0 (opF tupD [])]))   (vs_set (i := 5) (T := []) (j := 0) (f := opF lstD [odE [] 0 (opF tupD [])]) (by decide) (by decide) nd rfl (by first | exact Or.inl rfl | exact Or.inr rfl) (ve_share (k := 1) (ve_lst (O_lst (by decide)) (va_cons (vo_e (T := []) (k := 0) (f := opF tupD []) (ve_tup (O_tup (k := 0) (by decide)) (va_nil))) (va_nil) (by decide)))))   (vss_cons (κ1 := [0, 0, 0, 0, 0, 0, 0, 0, 0, 0, 0]) (s := forS (rng1 [odS [0, 0, 0, 0, 0, 0, 0, 0, 0, 0, 0] 0]) (tgN 4) (seqS (setS 6 (opF lstD [])) (seqS (forS (seqSrc (rd 5)) (tgN 8) (seqS (setS 6 (opF addD [odS [0, 0, 0, 0, 0, 0, 0, 0, 0, 0, 0] 6, odE [] 1 (lcF (clF (seqSrc (rd 3)) [7] (tgN 7) (orF (tstF (opF eqD [odS [0, 0, 0, 0, 0, 0, 0, 0, 0, 0, 0] 8, odE [] 0 (opF tupD [])])) (truO (odE [] 0 (opF allD [odE [] 1 (lcF (clF (rng1 [odS [0, 0, 0, 0, 0, 0, 0, 0, 0, 0, 0] 1]) [10] (tgN 10) (yesF) (oneF (opF leD [odE [] 0 (opF ixD [odS [0, 0, 0, 0, 0, 0, 0, 0, 0, 0, 0] 7, odS [0, 0, 0, 0, 0, 0, 0, 0, 0, 0, 0] 10]), odE [] 0 (opF ixD [odE [] 0 (opF ixD [odS [0, 0, 0, 0, 0, 0, 0, 0, 0, 0, 0] 8, odE [] 0 (opF subD [odE [] 0 (opF lenD [odS [0, 0, 0, 0, 0, 0, 0, 0, 0, 0, 0] 8]), odE [] 0 (cF (.int 1))])]), odS [0, 0, 0, 0, 0, 0, 0, 0, 0, 0, 0] 10])]))))])))) (oneF (opF addD [odS [0, 0, 0, 0, 0, 0, 0, 0, 0, 0, 0] 8, odE [] 0 (opF tupD [odE [] 0 (rd 7)])]))))])) (nilS))) (seqS (setS 5 (rd 6)) (nilS)))))   (vs_for (T := []) (f := rng1 [odS [0, 0, 0, 0, 0, 0, 0, 0, 0, 0, 0] 0]) (m := tgN 4) PassesOwn.never rfl (vi_rng1 (by rfl) (by exact bn "range" (by decide)) (va_cons (xo 0) (va_nil) (by decide))) (vg_name (i := 4) (κ' := [0, 0, 0, 0, 0, 0, 0, 0, 0, 0, 0]) (by decide) (by decide) rfl nd rfl (by first | exact Or.inl rfl | exact Or.inr rfl))  (vss_cons (κ1 := [0, 0, 0, 0, 0, 0, 0, 0, 0, 0, 0]) (s := setS 6 (opF lstD []))   (vs_set (i := 6) (T := []) (j := 0) (f := opF lstD []) (by decide) (by decide) nd rfl (by first | exact Or.inl rfl | exact Or.inr rfl) (ve_share (k := 1) (ve_lst (O_lst (by decide)) (va_nil))))   (vss_cons (κ1 := [0, 0, 0, 0, 0, 0, 0, 0, 0, 0, 0]) (s := forS (seqSrc (rd 5)) (tgN 8) (seqS (setS 6 (opF addD [odS [0, 0, 0, 0, 0, 0, 0, 0, 0, 0, 0] 6, odE [] 1 (lcF (clF (seqSrc (rd 3)) [7] (tgN 7) (orF (tstF (opF eqD [odS [0, 0, 0, 0, 0, 0, 0, 0, 0, 0, 0] 8, odE [] 0 (opF tupD [])])) (truO (odE [] 0 (opF allD [odE [] 1 (lcF (clF (rng1 [odS [0, 0, 0, 0, 0, 0, 0, 0, 0, 0, 0] 1]) [10] (tgN 10) (yesF) (oneF (opF leD [odE [] 0 (opF ixD [odS [0, 0, 0, 0, 0, 0, 0, 0, 0, 0, 0] 7, odS [0, 0, 0, 0, 0, 0, 0, 0, 0, 0, 0] 10]), odE [] 0 (opF ixD [odE [] 0 (opF ixD [odS [0, 0, 0, 0, 0, 0, 0, 0, 0, 0, 0] 8, odE [] 0 (opF subD [odE [] 0 (opF lenD [odS [0, 0, 0, 0, 0, 0, 0, 0, 0, 0, 0] 8]), odE [] 0 (cF (.int 1))])]), odS [0, 0, 0, 0, 0, 0, 0, 0, 0, 0, 0] 10])]))))])))) (oneF (opF addD [odS [0, 0, 0, 0, 0, 0, 0, 0, 0, 0, 0] 8, odE [] 0 (opF tupD [odE [] 0 (rd 7)])]))))])) (nilS)))   (vs_for (T := []) (f := seqSrc (rd 5)) (m := tgN 8) PassesOwn.never rfl (vi_seq (xv 5)) (vg_name (i := 8) (κ' := [0, 0, 0, 0, 0, 0, 0, 0, 0, 0, 0]) (by decide) (by decide) rfl nd rfl (by first | exact Or.inl rfl | exact Or.inr rfl))  (vss_cons (κ1 := [0, 0, 0, 0, 0, 0, 0, 0, 0, 0, 0]) (s := setS 6 (opF addD [odS [0, 0, 0, 0, 0, 0, 0, 0, 0, 0, 0] 6, odE [] 1 (lcF (clF (seqSrc (rd 3)) [7] (tgN 7) (orF (tstF (opF eqD [odS [0, 0, 0, 0, 0, 0, 0, 0, 0, 0, 0] 8, odE [] 0 (opF tupD [])])) (truO (odE [] 0 (opF allD [odE [] 1 (lcF (clF (rng1 [odS [0, 0, 0, 0, 0, 0, 0, 0, 0, 0, 0] 1]) [10] (tgN 10) (yesF) (oneF (opF leD [odE [] 0 (opF ixD [odS [0, 0, 0, 0, 0, 0, 0, 0, 0, 0, 0] 7, odS [0, 0, 0, 0, 0, 0, 0, 0, 0, 0, 0] 10]), odE [] 0 (opF ixD [odE [] 0 (opF ixD [odS [0, 0, 0, 0, 0, 0, 0, 0, 0, 0, 0] 8, odE [] 0 (opF subD [odE [] 0 (opF lenD [odS [0, 0, 0, 0, 0, 0, 0, 0, 0, 0, 0] 8]), odE [] 0 (cF (.int 1))])]), odS [0, 0, 0, 0, 0, 0, 0, 0, 0, 0, 0] 10])]))))])))) (oneF (opF addD [odS [0, 0, 0, 0, 0, 0, 0, 0, 0, 0, 0] 8, odE [] 0 (opF tupD [odE [] 0 (rd 7)])]))))]))   (vs_set (i := 6) (T := []) (j := 0) (f := opF addD [odS [0, 0, 0, 0, 0, 0, 0, 0, 0, 0, 0] 6, odE [] 1 (lcF (clF (seqSrc (rd 3)) [7] (tgN 7) (orF (tstF (opF eqD [odS [0, 0, 0, 0, 0, 0, 0, 0, 0, 0, 0] 8, odE [] 0 (opF tupD [])])) (truO (odE [] 0 (opF allD [odE [] 1 (lcF (clF (rng1 [odS [0, 0, 0, 0, 0, 0, 0, 0, 0, 0, 0] 1]) [10] (tgN 10) (yesF) (oneF (opF leD [odE [] 0 (opF ixD [odS [0, 0, 0, 0, 0, 0, 0, 0, 0, 0, 0] 7, odS [0, 0, 0, 0, 0, 0, 0, 0, 0, 0, 0] 10]), odE [] 0 (opF ixD [odE [] 0 (opF ixD [odS [0, 0, 0, 0, 0, 0, 0, 0, 0, 0, 0] 8, odE [] 0 (opF subD [odE [] 0 (opF lenD [odS [0, 0, 0, 0, 0, 0, 0, 0, 0, 0, 0] 8]), odE [] 0 (cF (.int 1))])]), odS [0, 0, 0, 0, 0, 0, 0, 0, 0, 0, 0] 10])]))))])))) (oneF (opF addD [odS [0, 0, 0, 0, 0, 0, 0, 0, 0, 0, 0] 8, odE [] 0 (opF tupD [odE [] 0 (rd 7)])]))))]) (by decide) (by decide) nd rfl (by first | exact Or.inl rfl | exact Or.inr rfl) (ve_share (k := 1) (ve_bin op_addA (O_add (by decide) (by decide)) (xo 6) (vo_e (T := []) (k := 1) (f := lcF (clF (seqSrc (rd 3)) [7] (tgN 7) (orF (tstF (opF eqD [odS [0, 0, 0, 0, 0, 0, 0, 0, 0, 0, 0] 8, odE [] 0 (opF tupD [])])) (truO (odE [] 0 (opF allD [odE [] 1 (lcF (clF (rng1 [odS [0, 0, 0, 0, 0, 0, 0, 0, 0, 0, 0] 1]) [10] (tgN 10) (yesF) (oneF (opF leD [odE [] 0 (opF ixD [odS [0, 0, 0, 0, 0, 0, 0, 0, 0, 0, 0] 7, odS [0, 0, 0, 0, 0, 0, 0, 0, 0, 0, 0] 10]), odE [] 0 (opF ixD [odE [] 0 (opF ixD [odS [0, 0, 0, 0, 0, 0, 0, 0, 0, 0, 0] 8, odE [] 0 (opF subD [odE [] 0 (opF lenD [odS [0, 0, 0, 0, 0, 0, 0, 0, 0, 0, 0] 8]), odE [] 0 (cF (.int 1))])]), odS [0, 0, 0, 0, 0, 0, 0, 0, 0, 0, 0] 10])]))))])))) (oneF (opF addD [odS [0, 0, 0, 0, 0, 0, 0, 0, 0, 0, 0] 8, odE [] 0 (opF tupD [odE [] 0 (rd 7)])])))) (ve_lc (κ := [0, 0, 0, 0, 0, 0, 0, 0, 0, 0, 0]) (T0 := []) (T1 := []) (T2 := []) (k := 0) (Φc := [0, 1, 2, 3, 4, 5, 6, 8, 9, 10]) [] [("line", 7)] (by decide) (by decide) (by decide) (by decide) (by decide) (by decide) rfl nd (vi_seq (xv 3)) (blkOk_by (by kernel_rfl)) (fun s0 H0 C0 cl0 fp0 => vg_name (i := 7) (κ' := [0, 0, 0, 0, 0, 0, 0, 0, 0, 0, 0]) (by decide) (by decide) rfl nd rfl (by first | exact Or.inl rfl | exact Or.inr rfl)) (fun s0 H0 C0 cl0 fp0 => vts_one ((vw_or (vt_cmp (op_eqA hu) (O_eq ) (xo 8) (vo_e (T := []) (k := 0) (f := opF tupD []) (ve_tup (O_tup (k := 0) (by decide)) (va_nil))) (by decide)) (vw_or1 (vt_tru (vo_e (T := []) (k := 0) (f := opF allD [odE [] 1 (lcF (clF (rng1 [odS [0, 0, 0, 0, 0, 0, 0, 0, 0, 0, 0] 1]) [10] (tgN 10) (yesF) (oneF (opF leD [odE [] 0 (opF ixD [odS [0, 0, 0, 0, 0, 0, 0, 0, 0, 0, 0] 7, odS [0, 0, 0, 0, 0, 0, 0, 0, 0, 0, 0] 10]), odE [] 0 (opF ixD [odE [] 0 (opF ixD [odS [0, 0, 0, 0, 0, 0, 0, 0, 0, 0, 0] 8, odE [] 0 (opF subD [odE [] 0 (opF lenD [odS [0, 0, 0, 0, 0, 0, 0, 0, 0, 0, 0] 8]), odE [] 0 (cF (.int 1))])]), odS [0, 0, 0, 0, 0, 0, 0, 0, 0, 0, 0] 10])]))))]) (ve_callB (cr_all rfl) (O_all (k := 0) (by decide)) (by rfl) (by exact bn "all" (by decide)) vb_all (va_cons (vo_e (T := []) (k := 1) (f := lcF (clF (rng1 [odS [0, 0, 0, 0, 0, 0, 0, 0, 0, 0, 0] 1]) [10] (tgN 10) (yesF) (oneF (opF leD [odE [] 0 (opF ixD [odS [0, 0, 0, 0, 0, 0, 0, 0, 0, 0, 0] 7, odS [0, 0, 0, 0, 0, 0, 0, 0, 0, 0, 0] 10]), odE [] 0 (opF ixD [odE [] 0 (opF ixD [odS [0, 0, 0, 0, 0, 0, 0, 0, 0, 0, 0] 8, odE [] 0 (opF subD [odE [] 0 (opF lenD [odS [0, 0, 0, 0, 0, 0, 0, 0, 0, 0, 0] 8]), odE [] 0 (cF (.int 1))])]), odS [0, 0, 0, 0, 0, 0, 0, 0, 0, 0, 0] 10])])))) (ve_lc (κ := [0, 0, 0, 0, 0, 0, 0, 0, 0, 0, 0]) (T0 := []) (T1 := []) (T2 := []) (k := 0) (Φc := [0, 1, 2, 3, 4, 5, 6, 7, 8, 9]) [] [("j", 10)] (by decide) (by decide) (by decide) (by decide) (by decide) (by decide) rfl nd (vi_rng1 (by rfl) (by exact bn "range" (by decide)) (va_cons (xo 1) (va_nil) (by decide))) (blkOk_by (by kernel_rfl)) (fun s0 H0 C0 cl0 fp0 => vg_name (i := 10) (κ' := [0, 0, 0, 0, 0, 0, 0, 0, 0, 0, 0]) (by decide) (by decide) rfl nd rfl (by first | exact Or.inl rfl | exact Or.inr rfl)) (fun s0 H0 C0 cl0 fp0 => vts_nil) (fun s0 H0 C0 cl0 fp0 => ve_cmp op_le (O_le (k := 0)) (vo_e (T := []) (k := 0) (f := opF ixD [odS [0, 0, 0, 0, 0, 0, 0, 0, 0, 0, 0] 7, odS [0, 0, 0, 0, 0, 0, 0, 0, 0, 0, 0] 10]) (ve_ix ix_seq (O_ix (by decide)) (xo 7) (xo 10) (by decide))) (vo_e (T := []) (k := 0) (f := opF ixD [odE [] 0 (opF ixD [odS [0, 0, 0, 0, 0, 0, 0, 0, 0, 0, 0] 8, odE [] 0 (opF subD [odE [] 0 (opF lenD [odS [0, 0, 0, 0, 0, 0, 0, 0, 0, 0, 0] 8]), odE [] 0 (cF (.int 1))])]), odS [0, 0, 0, 0, 0, 0, 0, 0, 0, 0, 0] 10]) (ve_ix ix_seq (O_ix (by decide)) (vo_e (T := []) (k := 0) (f := opF ixD [odS [0, 0, 0, 0, 0, 0, 0, 0, 0, 0, 0] 8, odE [] 0 (opF subD [odE [] 0 (opF lenD [odS [0, 0, 0, 0, 0, 0, 0, 0, 0, 0, 0] 8]), odE [] 0 (cF (.int 1))])]) (ve_ix ix_seq (O_ix (by decide)) (xo 8) (vo_e (T := []) (k := 0) (f := opF subD [odE [] 0 (opF lenD [odS [0, 0, 0, 0, 0, 0, 0, 0, 0, 0, 0] 8]), odE [] 0 (cF (.int 1))]) (ve_bin op_sub (O_sub (k := 0)) (vo_e (T := []) (k := 0) (f := opF lenD [odS [0, 0, 0, 0, 0, 0, 0, 0, 0, 0, 0] 8]) (ve_callB call_len (O_len (k := 0)) (by rfl) (by exact bn "len" (by decide)) vb_len (va_cons (xo 8) (va_nil) (by decide)))) (vo_e (T := []) (k := 0) (f := cF (.int 1)) (ve_int (k := 0))) (by decide))) (by decide))) (xo 10) (by decide))) (by decide)))) (va_nil) (by decide))))))).pt)) (fun s0 H0 C0 cl0 fp0 => ve_share (k := 1) (ve_bin op_addA (O_add (by decide) (by decide)) (xo 8) (vo_e (T := []) (k := 0) (f := opF tupD [odE [] 0 (rd 7)]) (ve_tup (O_tup (k := 0) (by decide)) (va_cons (vo_e (T := []) (k := 0) (f := rd 7) (xv 7)) (va_nil) (by decide)))) (by decide))))) (by decide))))   (vss_nil)))   (vss_cons (κ1 := [0, 0, 0, 0, 0, 0, 0, 0, 0, 0, 0]) (s := setS 5 (rd 6))   (vs_set (i := 5) (T := []) (j := 0) (f := rd 6) (by decide) (by decide) nd rfl (by first | exact Or.inl rfl | exact Or.inr rfl) (xv 6))   (vss_nil)))))   (vss_cons (κ1 := [0, 0, 0, 0, 0, 0, 0, 0, 0, 0, 0]) (s := retS (opF (sortedD false) [odS [0, 0, 0, 0, 0, 0, 0, 0, 0, 0, 0] 5]))   (vs_ret (T := []) (f := opF (sortedD false) [odS [0, 0, 0, 0, 0, 0, 0, 0, 0, 0, 0] 5]) (ve_share (k := 1) (ve_callB (cr_sortA hu) (O_sorted (by decide)) (by rfl) (by exact bn "sorted" (by decide)) vb_sorted (va_cons (xo 5) (va_nil) (by decide)))))   (vss_nil)))))
  exact ⟨fa, fd, _, h, hm, F.kp, hb⟩
abbrev s_ulaw_box : Stmt := topS 31
abbrev N_ulaw_box : List Str := ["state", "script"]
theorem sc_ulaw_box : FnScope N_ulaw_box ["state", "script"] (defScope s_ulaw_box) := ⟨rfl, rfl, rfl, by decide +kernel, rfl, by decide +kernel, by decide +kernel⟩
def S_ulaw_box : SemS := seqS (retS (opF ixD [odE [] 1 (opF lstD [odE [] 0 (opF tupD [odE [] 0 (cF (.int 1)), odE [] 0 (cF (.int 1)), odE [] 0 (cF (.int 3))]), odE [] 0 (opF tupD [odE [] 0 (cF (.int 1)), odE [] 0 (cF (.int 3)), odE [] 0 (cF (.int 2))]), odE [] 0 (opF tupD [odE [] 0 (cF (.int 2)), odE [] 0 (cF (.int 1)), odE [] 0 (cF (.int 4))]), odE [] 0 (opF tupD [odE [] 0 (cF (.int 2)), odE [] 0 (cF (.int 2)), odE [] 0 (cF (.int 2))]), odE [] 0 (opF tupD [odE [] 0 (cF (.int 2)), odE [] 0 (cF (.int 2)), odE [] 0 (cF (.int 3))]), odE [] 0 (opF tupD [odE [] 0 (cF (.int 3)), odE [] 0 (cF (.int 2)), odE [] 0 (cF (.int 2))]), odE [] 0 (opF tupD [odE [] 0 (cF (.int 2)), odE [] 0 (cF (.int 3)), odE [] 0 (cF (.int 2))]), odE [] 0 (opF tupD [odE [] 0 (cF (.int 3)), odE [] 0 (cF (.int 3)), odE [] 0 (cF (.int 1))]), odE [] 0 (opF tupD [odE [] 0 (cF (.int 2)), odE [] 0 (cF (.int 2)), odE [] 0 (cF (.int 4))]), odE [] 0 (opF tupD [odE [] 0 (cF (.int 3)), odE [] 0 (cF (.int 1)), odE [] 0 (cF (.int 3))]), odE [] 0 (opF tupD [odE [] 0 (cF (.int 1)), odE [] 0 (cF (.int 4)), odE [] 0 (cF (.int 3))]), odE [] 0 (opF tupD [odE [] 0 (cF (.int 3)), odE [] 0 (cF (.int 3)), odE [] 0 (cF (.int 2))])]), odE [0] 0 (callF [odS [1, 0] 0, odE [] 0 (rd 1), odE [] 0 (cF (.int 12))] F_ulaw_draw)])) (nilS)
def F_ulaw_box : Sem0 := fnF [0] N_ulaw_box.length S_ulaw_box
theorem ok_ulaw_box {P : Program} {w : World} {K : PySem.W.Frag} {mg : Str → Option Value} {base : Heap} {fa : Addr} {fd : FuncData} (F : Fun K "_law_box" "_law_box" s_ulaw_box fa fd) (hm : mg "_law_box" = some (.ref fa)) (hb : Binds K fd ["state", "script"] []) (C_ulaw_draw : CalD P w K mg base 2 "_law_draw" (spD ⟨K, P, w⟩ [0] [1, 0, 0] 0 F_ulaw_draw)) : CalD P w K mg base 3 "_law_box" (spD ⟨K, P, w⟩ [0] [1, 0] 0 F_ulaw_box) := by
  have h : FnOk P w K mg base CX0 3 fa fd ["state", "script"] (spD ⟨K, P, w⟩ [0] [1, 0] 0 (fnF [0] N_ulaw_box.length S_ulaw_box)) := by
    refine fn_ok (lv := 2) (N := N_ulaw_box) (κ' := [1, 0]) (κp := [1, 0]) (κl := []) (Φ := [0]) (s := S_ulaw_box) F sc_ulaw_box rfl rfl (zero_out (by decide)) (fun cdv A outer s0 H E hr => ?_)
    have hu := hr.units
    have nd := sc_ulaw_box.nd
    exact vss_cons (κ1 := [1, 0]) (s := retS (opF ixD [odE [] 1 (opF lstD [odE [] 0 (opF tupD [odE [] 0 (cF (.int 1)), odE [] 0 (cF (.int 1)), odE [] 0 (cF (.int 3))]), odE [] 0 (opF tupD [odE [] 0 (cF (.int 1)), odE [] 0 (cF (.int 3)), odE [] 0 (cF (.int 2))]), odE [] 0 (opF tupD [odE [] 0 (cF (.int 2)), odE [] 0 (cF (.int 1)), odE [] 0 (cF (.int 4))]), odE [] 0 (opF tupD [odE [] 0 (cF (.int 2)), odE [] 0 (cF (.int 2)), odE [] 0 (cF (.int 2))]), odE [] 0 (opF tupD [odE [] 0 (cF (.int 2)), odE [] 0 (cF (.int 2)), odE [] 0 (cF (.int 3))]), odE [] 0 (opF tupD [odE [] 0 (cF (.int 3)), odE [] 0 (cF (.int 2)), odE [] 0 (cF (.int 2))]), odE [] 0 (opF tupD [odE [] 0 (cF (.int 2)), odE [] 0 (cF (.int 3)), odE [] 0 (cF (.int 2))]), odE [] 0 (opF tupD [odE [] 0 (cF (.int 3)), odE [] 0 (cF (.int 3)), odE [] 0 (cF (.int 1))]), odE [] 0 (opF tupD [odE [] 0 (cF (.int 2)), odE [] 0 (cF (.int 2)), odE [] 0 (cF (.int 4))]), odE [] 0 (opF tupD [odE [] 0 (cF (.int 3)), odE [] 0 (cF (.int 1)), odE [] 0 (cF (.int 3))]), odE [] 0 (opF tupD [odE [] 0 (cF (.int 1)), odE [] 0 (cF (.int 4)), odE [] 0 (cF (.int 3))]), odE [] 0 (opF tupD [odE [] 0 (cF (.int 3)), odE [] 0 (cF (.int 3)), odE [] 0 (cF (.int 2))])]), odE [0] 0 (callF [odS [1, 0] 0, odE [] 0 (rd 1), odE [] 0 (cF (.int 12))] F_ulaw_draw)]))   (vs_ret (T := [0]) (f := opF ixD [odE [] 1 (opF lstD [odE [] 0 (opF tupD [odE [] 0 (cF (.int 1)), odE [] 0 (cF (.int 1)), odE [] 0 (cF (.int 3))]), odE [] 0 (opF tupD [odE [] 0 (cF (.int 1)), odE [] 0 (cF (.int 3)), odE [] 0 (cF (.int 2))]), odE [] 0 (opF tupD [odE [] 0 (cF (.int 2)), odE [] 0 (cF (.int 1)), odE [] 0 (cF (.int 4))]), odE [] 0 (opF tupD [odE [] 0 (cF (.int 2)), odE [] 0 (cF (.int 2)), odE [] 0 (cF (.int 2))]), odE [] 0 (opF tupD [odE [] 0 (cF (.int 2)), odE [] 0 (cF (.int 2)), odE [] 0 (cF (.int 3))]), odE [] 0 (opF tupD [odE [] 0 (cF (.int 3)), odE [] 0 (cF (.int 2)), odE [] 0 (cF (.int 2))]), odE [] 0 (opF tupD [odE [] 0 (cF (.int 2)), odE [] 0 (cF (.int 3)), odE [] 0 (cF (.int 2))]), odE [] 0 (opF tupD [odE [] 0 (cF (.int 3)), odE [] 0 (cF (.int 3)), odE [] 0 (cF (.int 1))]), odE [] 0 (opF tupD [odE [] 0 (cF (.int 2)), odE [] 0 (cF (.int 2)), odE [] 0 (cF (.int 4))]), odE [] 0 (opF tupD [odE [] 0 (cF (.int 3)), odE [] 0 (cF (.int 1)), odE [] 0 (cF (.int 3))]), odE [] 0 (opF tupD [odE [] 0 (cF (.int 1)), odE [] 0 (cF (.int 4)), odE [] 0 (cF (.int 3))]), odE [] 0 (opF tupD [odE [] 0 (cF (.int 3)), odE [] 0 (cF (.int 3)), odE [] 0 (cF (.int 2))])]), odE [0] 0 (callF [odS [1, 0] 0, odE [] 0 (rd 1), odE [] 0 (cF (.int 12))] F_ulaw_draw)]) (ve_ix ix_seq (O_ix (by decide)) (vo_e (T := []) (k := 1) (f := opF lstD [odE [] 0 (opF tupD [odE [] 0 (cF (.int 1)), odE [] 0 (cF (.int 1)), odE [] 0 (cF (.int 3))]), odE [] 0 (opF tupD [odE [] 0 (cF (.int 1)), odE [] 0 (cF (.int 3)), odE [] 0 (cF (.int 2))]), odE [] 0 (opF tupD [odE [] 0 (cF (.int 2)), odE [] 0 (cF (.int 1)), odE [] 0 (cF (.int 4))]), odE [] 0 (opF tupD [odE [] 0 (cF (.int 2)), odE [] 0 (cF (.int 2)), odE [] 0 (cF (.int 2))]), odE [] 0 (opF tupD [odE [] 0 (cF (.int 2)), odE [] 0 (cF (.int 2)), odE [] 0 (cF (.int 3))]), odE [] 0 (opF tupD [odE [] 0 (cF (.int 3)), odE [] 0 (cF (.int 2)), odE [] 0 (cF (.int 2))]), odE [] 0 (opF tupD [odE [] 0 (cF (.int 2)), odE [] 0 (cF (.int 3)), odE [] 0 (cF (.int 2))]), odE [] 0 (opF tupD [odE [] 0 (cF (.int 3)), odE [] 0 (cF (.int 3)), odE [] 0 (cF (.int 1))]), odE [] 0 (opF tupD [odE [] 0 (cF (.int 2)), odE [] 0 (cF (.int 2)), odE [] 0 (cF (.int 4))]), odE [] 0 (opF tupD [odE [] 0 (cF (.int 3)), odE [] 0 (cF (.int 1)), odE [] 0 (cF (.int 3))]), odE [] 0 (opF tupD [odE [] 0 (cF (.int 1)), odE [] 0 (cF (.int 4)), odE [] 0 (cF (.int 3))]), odE [] 0 (opF tupD [odE [] 0 (cF (.int 3)), odE [] 0 (cF (.int 3)), odE [] 0 (cF (.int 2))])]) (ve_lst (O_lst (by decide)) (va_cons (vo_e (T := []) (k := 0) (f := opF tupD [odE [] 0 (cF (.int 1)), odE [] 0 (cF (.int 1)), odE [] 0 (cF (.int 3))]) (ve_tup (O_tup (k := 0) (by decide)) (va_cons (vo_e (T := []) (k := 0) (f := cF (.int 1)) (ve_int (k := 0))) (va_cons (vo_e (T := []) (k := 0) (f := cF (.int 1)) (ve_int (k := 0))) (va_cons (vo_e (T := []) (k := 0) (f := cF (.int 3)) (ve_int (k := 0))) (va_nil) (by decide)) (by decide)) (by decide)))) (va_cons (vo_e (T := []) (k := 0) (f := opF tupD [odE [] 0 (cF (.int 1)), odE [] 0 (cF (.int 3)), odE [] 0 (cF (.int 2))]) (ve_tup (O_tup (k := 0) (by decide)) (va_cons (vo_e (T := []) (k := 0) (f := cF (.int 1)) (ve_int (k := 0))) (va_cons (vo_e (T := []) (k := 0) (f := cF (.int 3)) (ve_int (k := 0))) (va_cons (vo_e (T := []) (k := 0) (f := cF (.int 2)) (ve_int (k := 0))) (va_nil) (by decide)) (by decide)) (by decide)))) (va_cons (vo_e (T := []) (k := 0) (f := opF tupD [odE [] 0 (cF (.int 2)), odE [] 0 (cF (.int 1)), odE [] 0 (cF (.int 4))]) (ve_tup (O_tup (k := 0) (by decide)) (va_cons (vo_e (T := []) (k := 0) (f := cF (.int 2)) (ve_int (k := 0))) (va_cons (vo_e (T := []) (k := 0) (f := cF (.int 1)) (ve_int (k := 0))) (va_cons (vo_e (T := []) (k := 0) (f := cF (.int 4)) (ve_int (k := 0))) (va_nil) (by decide)) (by decide)) (by decide)))) (va_cons (vo_e (T := []) (k := 0) (f := opF tupD [odE [] 0 (cF (.int 2)), odE [] 0 (cF (.int 2)), odE [] 0 (cF (.int 2))]) (ve_tup (O_tup (k := 0) (by decide)) (va_cons (vo_e (T := []) (k := 0) (f := cF (.int 2)) (ve_int (k := 0))) (va_cons (vo_e (T := []) (k := 0) (f := cF (.int 2)) (ve_int (k := 0))) (va_cons (vo_e (T := []) (k := 0) (f := cF (.int 2)) (ve_int (k := 0))) (va_nil) (by decide)) (by decide)) (by decide)))) (va_cons (vo_e (T := []) (k := 0) (f := opF tupD [odE [] 0 (cF (.int 2)), odE [] 0 (cF (.int 2)), odE [] 0 (cF (.int 3))]) (ve_tup (O_tup (k := 0) (by decide)) (va_cons (vo_e (T := []) (k := 0) (f := cF (.int 2)) (ve_int (k := 0))) (va_cons (vo_e (T := []) (k := 0) (f := cF (.int 2)) (ve_int (k := 0))) (va_cons (vo_e (T := []) (k := 0) (f := cF (.int 3)) (ve_int (k := 0))) (va_nil) (by decide)) (by decide)) (by decide)))) (va_cons (vo_e (T := []) (k := 0) (f := opF tupD [odE [] 0 (cF (.int 3)), odE [] 0 (cF (.int 2)), odE [] 0 (cF (.int 2))]) (ve_tup (O_tup (k := 0) (by decide)) (va_cons (vo_e (T := []) (k := 0) (f := cF (.int 3)) (ve_int (k := 0))) (va_cons (vo_e (T := []) (k := 0) (f := cF (.int 2)) (ve_int (k := 0))) (va_cons (vo_e (T := []) (k := 0) (f := cF (.int 2)) (ve_int (k := 0))) (va_nil) (by decide)) (by decide)) (by decide)))) (va_cons (vo_e (T := []) (k := 0) (f := opF tupD [odE [] 0 (cF (.int 2)), odE [] 0 (cF (.int 3)), odE [] 0 (cF (.int 2))]) (ve_tup (O_tup (k := 0) (by decide)) (va_cons (vo_e (T := []) (k := 0) (f := cF (.int 2)) (ve_int (k := 0))) (va_cons (vo_e (T := []) (k := 0) (f := cF (.int 3)) (ve_int (k := 0))) (va_cons (vo_e (T := []) (k := 0) (f := cF (.int 2)) (ve_int (k := 0))) (va_nil) (by decide)) (by decide)) (by decide)))) (va_cons (vo_e (T := []) (k := 0) (f := opF tupD [odE [] 0 (cF (.int 3)), odE [] 0 (cF (.int 3)), odE [] 0 (cF (.int 1))]) (ve_tup (O_tup (k := 0) (by decide)) (va_cons (vo_e (T := []) (k := 0) (f := cF (.int 3)) (ve_int (k := 0))) (va_cons (vo_e (T := []) (k := 0) (f := cF (.int 3)) (ve_int (k := 0))) (va_cons (vo_e (T := []) (k := 0) (f := cF (.int 1)) (ve_int (k := 0))) (va_nil) (by decide)) (by decide)) (by decide)))) (va_cons (vo_e (T := []) (k := 0) (f := opF tupD [odE [] 0 (cF (.int 2)), odE [] 0 (cF (.int 2)), odE [] 0 (cF (.int 4))]) (ve_tup (O_tup (k := 0) (by decide)) (va_cons (vo_e (T := []) (k := 0) (f := cF (.int 2)) (ve_int (k := 0))) (va_cons (vo_e (T := []) (k := 0) (f := cF (.int 2)) (ve_int (k := 0))) (va_cons (vo_e (T := []) (k := 0) (f := cF (.int 4)) (ve_int (k := 0))) (va_nil) (by decide)) (by decide)) (by decide)))) (va_cons (vo_e (T := []) (k := 0) (f := opF tupD [odE [] 0 (cF (.int 3)), odE [] 0 (cF (.int 1)), odE [] 0 (cF (.int 3))]) (ve_tup (O_tup (k := 0) (by decide)) (va_cons (vo_e (T := []) (k := 0) (f := cF (.int 3)) (ve_int (k := 0))) (va_cons (vo_e (T := []) (k := 0) (f := cF (.int 1)) (ve_int (k := 0))) (va_cons (vo_e (T := []) (k := 0) (f := cF (.int 3)) (ve_int (k := 0))) (va_nil) (by decide)) (by decide)) (by decide)))) (va_cons (vo_e (T := []) (k := 0) (f := opF tupD [odE [] 0 (cF (.int 1)), odE [] 0 (cF (.int 4)), odE [] 0 (cF (.int 3))]) (ve_tup (O_tup (k := 0) (by decide)) (va_cons (vo_e (T := []) (k := 0) (f := cF (.int 1)) (ve_int (k := 0))) (va_cons (vo_e (T := []) (k := 0) (f := cF (.int 4)) (ve_int (k := 0))) (va_cons (vo_e (T := []) (k := 0) (f := cF (.int 3)) (ve_int (k := 0))) (va_nil) (by decide)) (by decide)) (by decide)))) (va_cons (vo_e (T := []) (k := 0) (f := opF tupD [odE [] 0 (cF (.int 3)), odE [] 0 (cF (.int 3)), odE [] 0 (cF (.int 2))]) (ve_tup (O_tup (k := 0) (by decide)) (va_cons (vo_e (T := []) (k := 0) (f := cF (.int 3)) (ve_int (k := 0))) (va_cons (vo_e (T := []) (k := 0) (f := cF (.int 3)) (ve_int (k := 0))) (va_cons (vo_e (T := []) (k := 0) (f := cF (.int 2)) (ve_int (k := 0))) (va_nil) (by decide)) (by decide)) (by decide)))) (va_nil) (by decide)) (by decide)) (by decide)) (by decide)) (by decide)) (by decide)) (by decide)) (by decide)) (by decide)) (by decide)) (by decide)) (by decide)))) (vo_e (T := [0]) (k := 0) (f := callF [odS [1, 0] 0, odE [] 0 (rd 1), odE [] 0 (cF (.int 12))] F_ulaw_draw) (ve_fn (k := 0) (fn := F_ulaw_draw) (C_ulaw_draw.mono (by decide)) hr (va_cons (xo 0) (va_cons (vo_e (T := []) (k := 0) (f := rd 1) (xv 1)) (va_cons (vo_e (T := []) (k := 0) (f := cF (.int 12)) (ve_int (k := 0))) (va_nil) (by decide)) (by decide)) (by decide)))) (by decide)))   (vss_nil)
  exact ⟨fa, fd, _, h, hm, F.kp, hb⟩
abbrev s_ulaw_swapped : Stmt := topS 32
abbrev N_ulaw_swapped : List Str := ["rows", "j", "row"]
theorem sc_ulaw_swapped : FnScope N_ulaw_swapped ["rows"] (defScope s_ulaw_swapped) := ⟨rfl, rfl, rfl, by decide +kernel, rfl, by decide +kernel, by decide +kernel⟩
def S_ulaw_swapped : SemS := seqS (retS (opF tupleD [odE [] 1 (lcF (clF (rng1 [odE [] 0 (opF lenD [odE [] 0 (opF ixD [odS [0, 0, 0] 0, odE [] 0 (cF (.int 0))])])]) [1] (tgN 1) (yesF) (oneF (opF tupleD [odE [] 1 (lcF (clF (seqSrc (rd 0)) [2] (tgN 2) (yesF) (oneF (opF ixD [odS [0, 0, 0] 2, odS [0, 0, 0] 1]))))]))))])) (nilS)
def F_ulaw_swapped : Sem0 := fnF [] N_ulaw_swapped.length S_ulaw_swapped
theorem ok_ulaw_swapped {P : Program} {w : World} {K : PySem.W.Frag} {mg : Str → Option Value} {base : Heap} {fa : Addr} {fd : FuncData} (F : Fun K "_law_swapped" "_law_swapped" s_ulaw_swapped fa fd) (hm : mg "_law_swapped" = some (.ref fa)) (hb : Binds K fd ["rows"] []) (bn : ∀ x, x ∈ bnames → mg x = none)  : CalD P w K mg base 1 "_law_swapped" (spD ⟨K, P, w⟩ [] [0] 0 F_ulaw_swapped) := by
  have h : FnOk P w K mg base CX0 1 fa fd ["rows"] (spD ⟨K, P, w⟩ [] [0] 0 (fnF [] N_ulaw_swapped.length S_ulaw_swapped)) := by
    refine fn_ok (lv := 0) (N := N_ulaw_swapped) (κ' := [0, 0, 0]) (κp := [0]) (κl := [0, 0]) (Φ := []) (s := S_ulaw_swapped) F sc_ulaw_swapped rfl rfl (zero_out (by decide)) (fun cdv A outer s0 H E hr => ?_)
    have hu := hr.units
    have nd := sc_ulaw_swapped.nd
    exact vss_cons (κ1 := [0, 0, 0]) (s := retS (opF tupleD [odE [] 1 (lcF (clF (rng1 [odE [] 0 (opF lenD [odE [] 0 (opF ixD [odS [0, 0, 0] 0, odE [] 0 (cF (.int 0))])])]) [1] (tgN 1) (yesF) (oneF (opF tupleD [odE [] 1 (lcF (clF (seqSrc (rd 0)) [2] (tgN 2) (yesF) (oneF (opF ixD [odS [0, 0, 0] 2, odS [0, 0, 0] 1]))))]))))]))   (vs_ret (T := []) (f := opF tupleD [odE [] 1 (lcF (clF (rng1 [odE [] 0 (opF lenD [odE [] 0 (opF ixD [odS [0, 0, 0] 0, odE [] 0 (cF (.int 0))])])]) [1] (tgN 1) (yesF) (oneF (opF tupleD [odE [] 1 (lcF (clF (seqSrc (rd 0)) [2] (tgN 2) (yesF) (oneF (opF ixD [odS [0, 0, 0] 2, odS [0, 0, 0] 1]))))]))))]) (ve_callTy call_tuple_of (O_tuple (k := 0) (by decide)) (by rfl) (by exact bn "tuple" (by decide)) vb_tuple (va_cons (vo_e (T := []) (k := 1) (f := lcF (clF (rng1 [odE [] 0 (opF lenD [odE [] 0 (opF ixD [odS [0, 0, 0] 0, odE [] 0 (cF (.int 0))])])]) [1] (tgN 1) (yesF) (oneF (opF tupleD [odE [] 1 (lcF (clF (seqSrc (rd 0)) [2] (tgN 2) (yesF) (oneF (opF ixD [odS [0, 0, 0] 2, odS [0, 0, 0] 1]))))])))) (ve_lc (κ := [0, 0, 0]) (T0 := []) (T1 := []) (T2 := []) (k := 0) (Φc := [0, 2]) [] [("j", 1)] (by decide) (by decide) (by decide) (by decide) (by decide) (by decide) rfl nd (vi_rng1 (by rfl) (by exact bn "range" (by decide)) (va_cons (vo_e (T := []) (k := 0) (f := opF lenD [odE [] 0 (opF ixD [odS [0, 0, 0] 0, odE [] 0 (cF (.int 0))])]) (ve_callB call_len (O_len (k := 0)) (by rfl) (by exact bn "len" (by decide)) vb_len (va_cons (vo_e (T := []) (k := 0) (f := opF ixD [odS [0, 0, 0] 0, odE [] 0 (cF (.int 0))]) (ve_ix ix_seq (O_ix (by decide)) (xo 0) (vo_e (T := []) (k := 0) (f := cF (.int 0)) (ve_int (k := 0))) (by decide))) (va_nil) (by decide)))) (va_nil) (by decide))) (blkOk_by (by kernel_rfl)) (fun s0 H0 C0 cl0 fp0 => vg_name (i := 1) (κ' := [0, 0, 0]) (by decide) (by decide) rfl nd rfl (by first | exact Or.inl rfl | exact Or.inr rfl)) (fun s0 H0 C0 cl0 fp0 => vts_nil) (fun s0 H0 C0 cl0 fp0 => ve_callTy call_tuple_of (O_tuple (k := 0) (by decide)) (by rfl) (by exact bn "tuple" (by decide)) vb_tuple (va_cons (vo_e (T := []) (k := 1) (f := lcF (clF (seqSrc (rd 0)) [2] (tgN 2) (yesF) (oneF (opF ixD [odS [0, 0, 0] 2, odS [0, 0, 0] 1])))) (ve_lc (κ := [0, 0, 0]) (T0 := []) (T1 := []) (T2 := []) (k := 0) (Φc := [0, 1]) [] [("row", 2)] (by decide) (by decide) (by decide) (by decide) (by decide) (by decide) rfl nd (vi_seq (xv 0)) (blkOk_by (by kernel_rfl)) (fun s0 H0 C0 cl0 fp0 => vg_name (i := 2) (κ' := [0, 0, 0]) (by decide) (by decide) rfl nd rfl (by first | exact Or.inl rfl | exact Or.inr rfl)) (fun s0 H0 C0 cl0 fp0 => vts_nil) (fun s0 H0 C0 cl0 fp0 => ve_ix ix_seq (O_ix (by decide)) (xo 2) (xo 1) (by decide)))) (va_nil) (by decide))))) (va_nil) (by decide))))   (vss_nil)
  exact ⟨fa, fd, _, h, hm, F.kp, hb⟩
abbrev s_ulaw_rolled : Stmt := topS 33
abbrev N_ulaw_rolled : List Str := ["rows", "c", "out", "i", "row", "entry"]
theorem sc_ulaw_rolled : FnScope N_ulaw_rolled ["rows", "c"] (defScope s_ulaw_rolled) := ⟨rfl, rfl, rfl, by decide +kernel, rfl, by decide +kernel, by decide +kernel⟩
def S_ulaw_rolled : SemS := seqS (setS 2 (opF lstD [])) (seqS (forS (rng1 [odS [0, 0, 1, 0, 0, 0] 1]) (tgN 3) (seqS (dropS (appF 2 (opF tupleD [odE [] 1 (lcF (clF (seqSrc (rd 0)) [4] (tgN 4) (yesF) (oneF (opF lenD [odE [] 1 (lcF (clF (seqSrc (rd 4)) [5] (tgN 5) (tstF (opF gtD [odS [0, 0, 1, 0, 0, 0] 5, odS [0, 0, 1, 0, 0, 0] 3])) (oneF (rd 5))))]))))]))) (nilS))) (seqS (retS (opF tupleD [odS [0, 0, 1, 0, 0, 0] 2])) (nilS)))
def F_ulaw_rolled : Sem0 := fnF [] N_ulaw_rolled.length S_ulaw_rolled
theorem ok_ulaw_rolled {P : Program} {w : World} {K : PySem.W.Frag} {mg : Str → Option Value} {base : Heap} {fa : Addr} {fd : FuncData} (F : Fun K "_law_rolled" "_law_rolled" s_ulaw_rolled fa fd) (hm : mg "_law_rolled" = some (.ref fa)) (hb : Binds K fd ["rows", "c"] []) (bn : ∀ x, x ∈ bnames → mg x = none)  : CalD P w K mg base 1 "_law_rolled" (spD ⟨K, P, w⟩ [] [0, 0] 0 F_ulaw_rolled) := by
  have h : FnOk P w K mg base CX0 1 fa fd ["rows", "c"] (spD ⟨K, P, w⟩ [] [0, 0] 0 (fnF [] N_ulaw_rolled.length S_ulaw_rolled)) := by
    refine fn_ok (lv := 0) (N := N_ulaw_rolled) (κ' := [0, 0, 1, 0, 0, 0]) (κp := [0, 0]) (κl := [0, 0, 0, 0]) (Φ := []) (s := S_ulaw_rolled) F sc_ulaw_rolled rfl rfl (zero_out (by decide)) (fun cdv A outer s0 H E hr => ?_)
    have hu := hr.units
    have nd := sc_ulaw_rolled.nd
    exact vss_cons (κ1 := [0, 0, 1, 0, 0, 0]) (s := setS 2 (opF lstD []))   (vs_set (i := 2) (T := []) (j := 1) (f := opF lstD []) (by decide) (by decide) nd rfl (by first | exact Or.inl rfl | exact Or.inr rfl) (ve_lst (O_lst (by decide)) (va_nil)))   (vss_cons (κ1 := [0, 0, 1, 0, 0, 0]) (s := forS (rng1 [odS [0, 0, 1, 0, 0, 0] 1]) (tgN 3) (seqS (dropS (appF 2 (opF tupleD [odE [] 1 (lcF (clF (seqSrc (rd 0)) [4] (tgN 4) (yesF) (oneF (opF lenD [odE [] 1 (lcF (clF (seqSrc (rd 4)) [5] (tgN 5) (tstF (opF gtD [odS [0, 0, 1, 0, 0, 0] 5, odS [0, 0, 1, 0, 0, 0] 3])) (oneF (rd 5))))]))))]))) (nilS)))   (vs_for (T := []) (f := rng1 [odS [0, 0, 1, 0, 0, 0] 1]) (m := tgN 3) PassesOwn.never rfl (vi_rng1 (by rfl) (by exact bn "range" (by decide)) (va_cons (xo 1) (va_nil) (by decide))) (vg_name (i := 3) (κ' := [0, 0, 1, 0, 0, 0]) (by decide) (by decide) rfl nd rfl (by first | exact Or.inl rfl | exact Or.inr rfl))  (vss_cons (κ1 := [0, 0, 1, 0, 0, 0]) (s := dropS (appF 2 (opF tupleD [odE [] 1 (lcF (clF (seqSrc (rd 0)) [4] (tgN 4) (yesF) (oneF (opF lenD [odE [] 1 (lcF (clF (seqSrc (rd 4)) [5] (tgN 5) (tstF (opF gtD [odS [0, 0, 1, 0, 0, 0] 5, odS [0, 0, 1, 0, 0, 0] 3])) (oneF (rd 5))))]))))])))   (vs_expr (T := [2]) (j := 0) (f := appF 2 (opF tupleD [odE [] 1 (lcF (clF (seqSrc (rd 0)) [4] (tgN 4) (yesF) (oneF (opF lenD [odE [] 1 (lcF (clF (seqSrc (rd 4)) [5] (tgN 5) (tstF (opF gtD [odS [0, 0, 1, 0, 0, 0] 5, odS [0, 0, 1, 0, 0, 0] 3])) (oneF (rd 5))))]))))])) (ve_append (i := 2) (k := 0) (by decide) (by decide) rfl (by first | exact Or.inl rfl | exact Or.inr (Or.inl rfl) | exact Or.inr (Or.inr rfl)) (ve_callTy call_tuple_of (O_tuple (k := 0) (by decide)) (by rfl) (by exact bn "tuple" (by decide)) vb_tuple (va_cons (vo_e (T := []) (k := 1) (f := lcF (clF (seqSrc (rd 0)) [4] (tgN 4) (yesF) (oneF (opF lenD [odE [] 1 (lcF (clF (seqSrc (rd 4)) [5] (tgN 5) (tstF (opF gtD [odS [0, 0, 1, 0, 0, 0] 5, odS [0, 0, 1, 0, 0, 0] 3])) (oneF (rd 5))))])))) (ve_lc (κ := [0, 0, 1, 0, 0, 0]) (T0 := []) (T1 := []) (T2 := []) (k := 0) (Φc := [0, 1, 2, 3, 5]) [] [("row", 4)] (by decide) (by decide) (by decide) (by decide) (by decide) (by decide) rfl nd (vi_seq (xv 0)) (blkOk_by (by kernel_rfl)) (fun s0 H0 C0 cl0 fp0 => vg_name (i := 4) (κ' := [0, 0, 1, 0, 0, 0]) (by decide) (by decide) rfl nd rfl (by first | exact Or.inl rfl | exact Or.inr rfl)) (fun s0 H0 C0 cl0 fp0 => vts_nil) (fun s0 H0 C0 cl0 fp0 => ve_callB call_len (O_len (k := 0)) (by rfl) (by exact bn "len" (by decide)) vb_len (va_cons (vo_e (T := []) (k := 1) (f := lcF (clF (seqSrc (rd 4)) [5] (tgN 5) (tstF (opF gtD [odS [0, 0, 1, 0, 0, 0] 5, odS [0, 0, 1, 0, 0, 0] 3])) (oneF (rd 5)))) (ve_lc (κ := [0, 0, 1, 0, 0, 0]) (T0 := []) (T1 := []) (T2 := []) (k := 0) (Φc := [0, 1, 2, 3, 4]) [] [("entry", 5)] (by decide) (by decide) (by decide) (by decide) (by decide) (by decide) rfl nd (vi_seq (xv 4)) (blkOk_by (by kernel_rfl)) (fun s0 H0 C0 cl0 fp0 => vg_name (i := 5) (κ' := [0, 0, 1, 0, 0, 0]) (by decide) (by decide) rfl nd rfl (by first | exact Or.inl rfl | exact Or.inr rfl)) (fun s0 H0 C0 cl0 fp0 => vts_one (vt_cmp op_gt (O_gt ) (xo 5) (xo 3) (by decide))) (fun s0 H0 C0 cl0 fp0 => xv 5))) (va_nil) (by decide))))) (va_nil) (by decide)))))   (vss_nil)))   (vss_cons (κ1 := [0, 0, 1, 0, 0, 0]) (s := retS (opF tupleD [odS [0, 0, 1, 0, 0, 0] 2]))   (vs_ret (T := []) (f := opF tupleD [odS [0, 0, 1, 0, 0, 0] 2]) (ve_callTy call_tuple_of (O_tuple (k := 0) (by decide)) (by rfl) (by exact bn "tuple" (by decide)) vb_tuple (va_cons (xo 2) (va_nil) (by decide))))   (vss_nil)))
  exact ⟨fa, fd, _, h, hm, F.kp, hb⟩
abbrev s_ulaw_lacks : Stmt := topS 34
abbrev N_ulaw_lacks : List Str := ["rows", "c", "row", "entry"]
theorem sc_ulaw_lacks : FnScope N_ulaw_lacks ["rows", "c"] (defScope s_ulaw_lacks) := ⟨rfl, rfl, rfl, by decide +kernel, rfl, by decide +kernel, by decide +kernel⟩
def S_ulaw_lacks : SemS := seqS (retS (opF tupleD [odE [] 1 (lcF (clF (seqSrc (opF slRD [odS [0, 0, 0, 0] 0])) [2] (tgN 2) (yesF) (oneF (opF tupleD [odE [] 1 (lcF (clF (seqSrc (opF slRD [odS [0, 0, 0, 0] 2])) [3] (tgN 3) (yesF) (oneF (opF subD [odS [0, 0, 0, 0] 1, odS [0, 0, 0, 0] 3]))))]))))])) (nilS)
def F_ulaw_lacks : Sem0 := fnF [] N_ulaw_lacks.length S_ulaw_lacks
theorem ok_ulaw_lacks {P : Program} {w : World} {K : PySem.W.Frag} {mg : Str → Option Value} {base : Heap} {fa : Addr} {fd : FuncData} (F : Fun K "_law_lacks" "_law_lacks" s_ulaw_lacks fa fd) (hm : mg "_law_lacks" = some (.ref fa)) (hb : Binds K fd ["rows", "c"] []) (bn : ∀ x, x ∈ bnames → mg x = none)  : CalD P w K mg base 1 "_law_lacks" (spD ⟨K, P, w⟩ [] [0, 0] 0 F_ulaw_lacks) := by
  have h : FnOk P w K mg base CX0 1 fa fd ["rows", "c"] (spD ⟨K, P, w⟩ [] [0, 0] 0 (fnF [] N_ulaw_lacks.length S_ulaw_lacks)) := by
    refine fn_ok (lv := 0) (N := N_ulaw_lacks) (κ' := [0, 0, 0, 0]) (κp := [0, 0]) (κl := [0, 0]) (Φ := []) (s := S_ulaw_lacks) F sc_ulaw_lacks rfl rfl (zero_out (by decide)) (fun cdv A outer s0 H E hr => ?_)
    have hu := hr.units
    have nd := sc_ulaw_lacks.nd
    exact vss_cons (κ1 := [0, 0, 0, 0]) (s := retS (opF tupleD [odE [] 1 (lcF (clF (seqSrc (opF slRD [odS [0, 0, 0, 0] 0])) [2] (tgN 2) (yesF) (oneF (opF tupleD [odE [] 1 (lcF (clF (seqSrc (opF slRD [odS [0, 0, 0, 0] 2])) [3] (tgN 3) (yesF) (oneF (opF subD [odS [0, 0, 0, 0] 1, odS [0, 0, 0, 0] 3]))))]))))]))   (vs_ret (T := []) (f := opF tupleD [odE [] 1 (lcF (clF (seqSrc (opF slRD [odS [0, 0, 0, 0] 0])) [2] (tgN 2) (yesF) (oneF (opF tupleD [odE [] 1 (lcF (clF (seqSrc (opF slRD [odS [0, 0, 0, 0] 2])) [3] (tgN 3) (yesF) (oneF (opF subD [odS [0, 0, 0, 0] 1, odS [0, 0, 0, 0] 3]))))]))))]) (ve_callTy call_tuple_of (O_tuple (k := 0) (by decide)) (by rfl) (by exact bn "tuple" (by decide)) vb_tuple (va_cons (vo_e (T := []) (k := 1) (f := lcF (clF (seqSrc (opF slRD [odS [0, 0, 0, 0] 0])) [2] (tgN 2) (yesF) (oneF (opF tupleD [odE [] 1 (lcF (clF (seqSrc (opF slRD [odS [0, 0, 0, 0] 2])) [3] (tgN 3) (yesF) (oneF (opF subD [odS [0, 0, 0, 0] 1, odS [0, 0, 0, 0] 3]))))])))) (ve_lc (κ := [0, 0, 0, 0]) (T0 := []) (T1 := []) (T2 := []) (k := 0) (Φc := [0, 1, 3]) [] [("row", 2)] (by decide) (by decide) (by decide) (by decide) (by decide) (by decide) rfl nd (vi_seq (ve_share (k := 1) (ve_slR (xo 0) (by decide)))) (blkOk_by (by kernel_rfl)) (fun s0 H0 C0 cl0 fp0 => vg_name (i := 2) (κ' := [0, 0, 0, 0]) (by decide) (by decide) rfl nd rfl (by first | exact Or.inl rfl | exact Or.inr rfl)) (fun s0 H0 C0 cl0 fp0 => vts_nil) (fun s0 H0 C0 cl0 fp0 => ve_callTy call_tuple_of (O_tuple (k := 0) (by decide)) (by rfl) (by exact bn "tuple" (by decide)) vb_tuple (va_cons (vo_e (T := []) (k := 1) (f := lcF (clF (seqSrc (opF slRD [odS [0, 0, 0, 0] 2])) [3] (tgN 3) (yesF) (oneF (opF subD [odS [0, 0, 0, 0] 1, odS [0, 0, 0, 0] 3])))) (ve_lc (κ := [0, 0, 0, 0]) (T0 := []) (T1 := []) (T2 := []) (k := 0) (Φc := [0, 1, 2]) [] [("entry", 3)] (by decide) (by decide) (by decide) (by decide) (by decide) (by decide) rfl nd (vi_seq (ve_share (k := 1) (ve_slR (xo 2) (by decide)))) (blkOk_by (by kernel_rfl)) (fun s0 H0 C0 cl0 fp0 => vg_name (i := 3) (κ' := [0, 0, 0, 0]) (by decide) (by decide) rfl nd rfl (by first | exact Or.inl rfl | exact Or.inr rfl)) (fun s0 H0 C0 cl0 fp0 => vts_nil) (fun s0 H0 C0 cl0 fp0 => ve_bin op_sub (O_sub (k := 0)) (xo 1) (xo 3) (by decide)))) (va_nil) (by decide))))) (va_nil) (by decide))))   (vss_nil)
  exact ⟨fa, fd, _, h, hm, F.kp, hb⟩
abbrev s_ulaw_lot : Stmt := topS 35
abbrev N_ulaw_lot : List Str := ["rows", "c", "out", "at", "other"]
theorem sc_ulaw_lot : FnScope N_ulaw_lot ["rows", "c"] (defScope s_ulaw_lot) := ⟨rfl, rfl, rfl, by decide +kernel, rfl, by decide +kernel, by decide +kernel⟩
def S_ulaw_lot : SemS := seqS (par2 2 3 (opF lstD [odE [] 0 (rd 0)]) (cF (.int 0))) (seqS (whileS (tstF (opF ltD [odS [0, 0, 1, 0, 0] 3, odE [] 0 (opF lenD [odS [0, 0, 1, 0, 0] 2])])) (seqS (forS (seqSrc (opF tupD [odE [] 0 (callF [odE [] 0 (opF ixD [odS [0, 0, 1, 0, 0] 2, odS [0, 0, 1, 0, 0] 3])] F_ulaw_swapped), odE [] 0 (callF [odE [] 0 (opF ixD [odS [0, 0, 1, 0, 0] 2, odS [0, 0, 1, 0, 0] 3]), odE [] 0 (rd 1)] F_ulaw_rolled)])) (tgN 4) (seqS (ifS (tstF (opF (inD true) [odS [0, 0, 1, 0, 0] 4, odS [0, 0, 1, 0, 0] 2])) (seqS (dropS (appF 2 (rd 4))) (nilS)) (nilS)) (nilS))) (seqS (setS 3 (opF addD [odS [0, 0, 1, 0, 0] 3, odE [] 0 (cF (.int 1))])) (nilS))) 100000) (seqS (retS (opF (sortedD false) [odS [0, 0, 1, 0, 0] 2])) (nilS)))
def F_ulaw_lot : Sem0 := fnF [] N_ulaw_lot.length S_ulaw_lot
theorem ok_ulaw_lot {P : Program} {w : World} {K : PySem.W.Frag} {mg : Str → Option Value} {base : Heap} {fa : Addr} {fd : FuncData} (F : Fun K "_law_lot" "_law_lot" s_ulaw_lot fa fd) (hm : mg "_law_lot" = some (.ref fa)) (hb : Binds K fd ["rows", "c"] []) (bn : ∀ x, x ∈ bnames → mg x = none) (C_ulaw_swapped : CalD P w K mg base 1 "_law_swapped" (spD ⟨K, P, w⟩ [] [0] 0 F_ulaw_swapped)) (C_ulaw_rolled : CalD P w K mg base 1 "_law_rolled" (spD ⟨K, P, w⟩ [] [0, 0] 0 F_ulaw_rolled)) : CalD P w K mg base 2 "_law_lot" (spD ⟨K, P, w⟩ [] [0, 0] 0 F_ulaw_lot) := by
  have h : FnOk P w K mg base CX0 2 fa fd ["rows", "c"] (spD ⟨K, P, w⟩ [] [0, 0] 0 (fnF [] N_ulaw_lot.length S_ulaw_lot)) := by
    refine fn_ok (lv := 1) (N := N_ulaw_lot) (κ' := [0, 0, 1, 0, 0]) (κp := [0, 0]) (κl := [0, 0, 0]) (Φ := []) (s := S_ulaw_lot) F sc_ulaw_lot rfl rfl (zero_out (by decide)) (fun cdv A outer s0 H E hr => ?_)
    have hu := hr.units
    have nd := sc_ulaw_lot.nd
    exact vss_cons (κ1 := [0, 0, 1, 0, 0]) (s := par2 2 3 (opF lstD [odE [] 0 (rd 0)]) (cF (.int 0)))   (vs_par (i := 2) (j := 3) (k1 := 1) (f := opF lstD [odE [] 0 (rd 0)]) (k2 := 0) (g := cF (.int 0)) (T := []) (U := []) (by decide) (by decide) (by decide) (by decide) (by decide) rfl nd rfl rfl rfl rfl (ve_lst (O_lst (by decide)) (va_cons (vo_e (T := []) (k := 0) (f := rd 0) (xv 0)) (va_nil) (by decide))) (ve_int (k := 0)) rfl)   (vss_cons (κ1 := [0, 0, 1, 0, 0]) (s := whileS (tstF (opF ltD [odS [0, 0, 1, 0, 0] 3, odE [] 0 (opF lenD [odS [0, 0, 1, 0, 0] 2])])) (seqS (forS (seqSrc (opF tupD [odE [] 0 (callF [odE [] 0 (opF ixD [odS [0, 0, 1, 0, 0] 2, odS [0, 0, 1, 0, 0] 3])] F_ulaw_swapped), odE [] 0 (callF [odE [] 0 (opF ixD [odS [0, 0, 1, 0, 0] 2, odS [0, 0, 1, 0, 0] 3]), odE [] 0 (rd 1)] F_ulaw_rolled)])) (tgN 4) (seqS (ifS (tstF (opF (inD true) [odS [0, 0, 1, 0, 0] 4, odS [0, 0, 1, 0, 0] 2])) (seqS (dropS (appF 2 (rd 4))) (nilS)) (nilS)) (nilS))) (seqS (setS 3 (opF addD [odS [0, 0, 1, 0, 0] 3, odE [] 0 (cF (.int 1))])) (nilS))) 100000)   (vs_while (T := []) (t := tstF (opF ltD [odS [0, 0, 1, 0, 0] 3, odE [] 0 (opF lenD [odS [0, 0, 1, 0, 0] 2])])) 100000 PassesOwn.never (vt_cmp op_lt (O_lt ) (xo 3) (vo_e (T := []) (k := 0) (f := opF lenD [odS [0, 0, 1, 0, 0] 2]) (ve_callB call_len (O_len (k := 0)) (by rfl) (by exact bn "len" (by decide)) vb_len (va_cons (xo 2) (va_nil) (by decide)))) (by decide))  (vss_cons (κ1 := [0, 0, 1, 0, 0]) (s := forS (seqSrc (opF tupD [odE [] 0 (callF [odE [] 0 (opF ixD [odS [0, 0, 1, 0, 0] 2, odS [0, 0, 1, 0, 0] 3])] F_ulaw_swapped), odE [] 0 (callF [odE [] 0 (opF ixD [odS [0, 0, 1, 0, 0] 2, odS [0, 0, 1, 0, 0] 3]), odE [] 0 (rd 1)] F_ulaw_rolled)])) (tgN 4) (seqS (ifS (tstF (opF (inD true) [odS [0, 0, 1, 0, 0] 4, odS [0, 0, 1, 0, 0] 2])) (seqS (dropS (appF 2 (rd 4))) (nilS)) (nilS)) (nilS)))   (vs_for (T := []) (f := seqSrc (opF tupD [odE [] 0 (callF [odE [] 0 (opF ixD [odS [0, 0, 1, 0, 0] 2, odS [0, 0, 1, 0, 0] 3])] F_ulaw_swapped), odE [] 0 (callF [odE [] 0 (opF ixD [odS [0, 0, 1, 0, 0] 2, odS [0, 0, 1, 0, 0] 3]), odE [] 0 (rd 1)] F_ulaw_rolled)])) (m := tgN 4) PassesOwn.never rfl (vi_seq (ve_tup (O_tup (k := 0) (by decide)) (va_cons (vo_e (T := []) (k := 0) (f := callF [odE [] 0 (opF ixD [odS [0, 0, 1, 0, 0] 2, odS [0, 0, 1, 0, 0] 3])] F_ulaw_swapped) (ve_fn (k := 0) (fn := F_ulaw_swapped) (C_ulaw_swapped.mono (by decide)) hr (va_cons (vo_e (T := []) (k := 0) (f := opF ixD [odS [0, 0, 1, 0, 0] 2, odS [0, 0, 1, 0, 0] 3]) (ve_ix ix_seq (O_ix (by decide)) (xo 2) (xo 3) (by decide))) (va_nil) (by decide)))) (va_cons (vo_e (T := []) (k := 0) (f := callF [odE [] 0 (opF ixD [odS [0, 0, 1, 0, 0] 2, odS [0, 0, 1, 0, 0] 3]), odE [] 0 (rd 1)] F_ulaw_rolled) (ve_fn (k := 0) (fn := F_ulaw_rolled) (C_ulaw_rolled.mono (by decide)) hr (va_cons (vo_e (T := []) (k := 0) (f := opF ixD [odS [0, 0, 1, 0, 0] 2, odS [0, 0, 1, 0, 0] 3]) (ve_ix ix_seq (O_ix (by decide)) (xo 2) (xo 3) (by decide))) (va_cons (vo_e (T := []) (k := 0) (f := rd 1) (xv 1)) (va_nil) (by decide)) (by decide)))) (va_nil) (by decide)) (by decide)))) (vg_name (i := 4) (κ' := [0, 0, 1, 0, 0]) (by decide) (by decide) rfl nd rfl (by first | exact Or.inl rfl | exact Or.inr rfl))  (vss_cons (κ1 := [0, 0, 1, 0, 0]) (s := ifS (tstF (opF (inD true) [odS [0, 0, 1, 0, 0] 4, odS [0, 0, 1, 0, 0] 2])) (seqS (dropS (appF 2 (rd 4))) (nilS)) (nilS))   (vs_if (T := []) (t := tstF (opF (inD true) [odS [0, 0, 1, 0, 0] 4, odS [0, 0, 1, 0, 0] 2])) (vt_cmp (op_notInA hu) (O_in ) (xo 4) (xo 2) (by decide))  (vss_cons (κ1 := [0, 0, 1, 0, 0]) (s := dropS (appF 2 (rd 4)))   (vs_expr (T := [2]) (j := 0) (f := appF 2 (rd 4)) (ve_append (i := 2) (k := 0) (by decide) (by decide) rfl (by first | exact Or.inl rfl | exact Or.inr (Or.inl rfl) | exact Or.inr (Or.inr rfl)) (xv 4)))   (vss_nil))  (vss_nil))   (vss_nil)))   (vss_cons (κ1 := [0, 0, 1, 0, 0]) (s := setS 3 (opF addD [odS [0, 0, 1, 0, 0] 3, odE [] 0 (cF (.int 1))]))   (vs_set (i := 3) (T := []) (j := 0) (f := opF addD [odS [0, 0, 1, 0, 0] 3, odE [] 0 (cF (.int 1))]) (by decide) (by decide) nd rfl (by first | exact Or.inl rfl | exact Or.inr rfl) (ve_share (k := 1) (ve_bin op_addA (O_add (by decide) (by decide)) (xo 3) (vo_e (T := []) (k := 0) (f := cF (.int 1)) (ve_int (k := 0))) (by decide))))   (vss_nil))))   (vss_cons (κ1 := [0, 0, 1, 0, 0]) (s := retS (opF (sortedD false) [odS [0, 0, 1, 0, 0] 2]))   (vs_ret (T := []) (f := opF (sortedD false) [odS [0, 0, 1, 0, 0] 2]) (ve_share (k := 1) (ve_callB (cr_sortA hu) (O_sorted (by decide)) (by rfl) (by exact bn "sorted" (by decide)) vb_sorted (va_cons (xo 2) (va_nil) (by decide)))))   (vss_nil)))
  exact ⟨fa, fd, _, h, hm, F.kp, hb⟩
abbrev s_law : Stmt := topS 36
abbrev N_law : List Str := ["script", "state", "a", "b", "c", "every", "n", "same", "k", "rolled_v", "both", "lots", "rows", "found", "due", "lot", "m"]
theorem sc_law : FnScope N_law ["script"] (defScope s_law) := ⟨rfl, rfl, rfl, by decide +kernel, rfl, by decide +kernel, by decide +kernel⟩
def L0 : SemS := setS 1 (opF lstD [odE [] 0 (cF (.int 0)), odE [] 0 (cF (.int 0))])
def L1 : SemS := asgS (callF [odS [0, 1, 0, 0, 0, 0, 0, 0, 0, 0, 0, 0, 0, 0, 0, 0, 0] 1, odE [] 0 (rd 0)] F_ulaw_box) (tgT [tgN 2, tgN 3, tgN 4])
def L2 : SemS := setS 5 (callF [odE [] 0 (rd 2), odE [] 0 (rd 3), odE [] 0 (rd 4)] F_ulaw_heaps)
def L3 : SemS := ifS (notF (truO (odE [] 0 (callF [odE [] 0 (opF lenD [odE [] 1 (lcF (clF (seqSrc (rd 5)) [12] (tgN 12) (tstF (opF eqD [odE [] 0 (callF [odE [] 0 (rd 12), odE [] 0 (rd 4)] F_ulaw_lacks), odS [0, 1, 0, 0, 0, 0, 0, 0, 0, 0, 0, 0, 0, 0, 0, 0, 0] 12])) (oneF (rd 12))))]), odE [] 0 (callF [odE [] 0 (rd 2), odE [] 0 (rd 3), odE [] 0 (rd 4)] F_count_mirrored)] (F_ulaw_exact 12))))) (seqS (retS (cF (.bl false))) (nilS)) (nilS)
def L4 : SemS := setS 6 (opF addD [odE [] 0 (cF (.int 1)), odE [1] 0 (callF [odS [0, 1, 0, 0, 0, 0, 0, 0, 0, 0, 0, 0, 0, 0, 0, 0, 0] 1, odE [] 0 (rd 0), odE [] 0 (cF (.int 3))] F_ulaw_draw)])
def L5 : SemS := setS 4 (ifF (tstF (opF ltD [odS [0, 1, 0, 0, 0, 0, 0, 0, 0, 0, 0, 0, 0, 0, 0, 0, 0] 6, odE [] 0 (cF (.int 3))])) (opF ixD [odE [] 1 (opF lstD [odE [] 0 (cF (.int 1)), odE [] 0 (cF (.int 2)), odE [] 0 (cF (.int 3)), odE [] 0 (cF (.int 4)), odE [] 0 (cF (.int 2))]), odE [1] 0 (callF [odS [0, 1, 0, 0, 0, 0, 0, 0, 0, 0, 0, 0, 0, 0, 0, 0, 0] 1, odE [] 0 (rd 0), odE [] 0 (cF (.int 5))] F_ulaw_draw)]) (opF ixD [odE [] 1 (opF lstD [odE [] 0 (cF (.int 1)), odE [] 0 (cF (.int 2))]), odE [1] 0 (callF [odS [0, 1, 0, 0, 0, 0, 0, 0, 0, 0, 0, 0, 0, 0, 0, 0, 0] 1, odE [] 0 (rd 0), odE [] 0 (cF (.int 2))] F_ulaw_draw)]))
def L6 : SemS := setS 5 (callF [odE [] 0 (rd 6), odE [] 0 (rd 6), odE [] 0 (rd 4)] F_ulaw_heaps)
def L7 : SemS := setS 7 (lcF (clF (seqSrc (rd 5)) [12] (tgN 12) (tstF (opF eqD [odE [] 0 (callF [odE [] 0 (rd 12)] F_ulaw_swapped), odS [0, 1, 0, 0, 0, 0, 0, 0, 0, 0, 0, 0, 0, 0, 0, 0, 0] 12])) (oneF (rd 12))))
def L8 : SemS := ifS (notF (truO (odE [] 0 (callF [odE [] 0 (opF lstD [odE [] 0 (rd 7), odE [] 0 (opF lenD [odS [0, 1, 0, 0, 0, 0, 0, 0, 0, 0, 0, 0, 0, 0, 0, 0, 0] 7])]), odE [] 0 (opF lstD [odE [] 0 (callF [odE [] 0 (rd 6), odE [] 0 (rd 4)] F_those_swapped), odE [] 0 (callF [odE [] 0 (rd 6), odE [] 0 (rd 4)] F_count_swapped)])] (F_ulaw_exact 12))))) (seqS (retS (cF (.bl false))) (nilS)) (nilS)
def L9 : SemS := ifS (andF (tstF (opF eqD [odE [] 0 (opF modD [odE [] 0 (opF intD [odS [0, 1, 0, 0, 0, 0, 0, 0, 0, 0, 0, 0, 0, 0, 0, 0, 0] 4]), odE [] 0 (cF (.int 2))]), odE [] 0 (cF (.int 0))])) (tstF (opF neD [odE [] 0 (opF lenD [odE [] 1 (lcF (clF (seqSrc (rd 5)) [12] (tgN 12) (tstF (opF eqD [odE [] 0 (callF [odE [] 0 (callF [odE [] 0 (rd 12), odE [] 0 (rd 4)] F_ulaw_lacks)] F_ulaw_swapped), odS [0, 1, 0, 0, 0, 0, 0, 0, 0, 0, 0, 0, 0, 0, 0, 0, 0] 12])) (oneF (rd 12))))]), odE [] 0 (callF [odE [] 0 (rd 6), odE [] 0 (rd 4)] F_count_crossed)]))) (seqS (retS (cF (.bl false))) (nilS)) (nilS)
def L10 : SemS := forS (rng1 [odE [] 0 (cF (.int 4))]) (tgN 8) (seqS (setS 12 (opF ixD [odS [0, 1, 0, 0, 0, 0, 0, 0, 0, 0, 0, 0, 0, 0, 0, 0, 0] 5, odE [1] 0 (callF [odS [0, 1, 0, 0, 0, 0, 0, 0, 0, 0, 0, 0, 0, 0, 0, 0, 0] 1, odE [] 0 (rd 0), odE [] 0 (opF lenD [odS [0, 1, 0, 0, 0, 0, 0, 0, 0, 0, 0, 0, 0, 0, 0, 0, 0] 5])] F_ulaw_draw)])) (seqS (setS 14 (opF lstD [odE [] 0 (opF eqD [odE [] 0 (callF [odE [] 0 (rd 12)] F_ulaw_swapped), odS [0, 1, 0, 0, 0, 0, 0, 0, 0, 0, 0, 0, 0, 0, 0, 0, 0] 12]), odE [] 0 (opF eqD [odE [] 0 (callF [odE [] 0 (rd 12), odE [] 0 (rd 4)] F_ulaw_lacks), odS [0, 1, 0, 0, 0, 0, 0, 0, 0, 0, 0, 0, 0, 0, 0, 0, 0] 12]), odE [] 0 (opF eqD [odE [] 0 (callF [odE [] 0 (callF [odE [] 0 (rd 12), odE [] 0 (rd 4)] F_ulaw_lacks)] F_ulaw_swapped), odS [0, 1, 0, 0, 0, 0, 0, 0, 0, 0, 0, 0, 0, 0, 0, 0, 0] 12])])) (seqS (ifS (notF (truO (odE [] 0 (callF [odE [] 0 (rd 14), odE [] 0 (opF lstD [odE [] 0 (callF [odE [] 0 (rd 12)] F_is_swapped), odE [] 0 (callF [odE [] 0 (rd 12), odE [] 0 (rd 4)] F_is_mirrored), odE [] 0 (callF [odE [] 0 (rd 12), odE [] 0 (rd 4)] F_is_crossed)])] (F_ulaw_exact 12))))) (seqS (retS (cF (.bl false))) (nilS)) (nilS)) (nilS))))
def L11 : SemS := setS 6 (opF addD [odE [] 0 (cF (.int 1)), odE [1] 0 (callF [odS [0, 1, 0, 0, 0, 0, 0, 0, 0, 0, 0, 0, 0, 0, 0, 0, 0] 1, odE [] 0 (rd 0), odE [] 0 (cF (.int 2))] F_ulaw_draw)])
def L12 : SemS := setS 5 (callF [odE [] 0 (rd 6), odE [] 0 (rd 6), odE [] 0 (rd 6)] F_ulaw_heaps)
def L13 : SemS := setS 9 (lcF (clF (seqSrc (rd 5)) [12] (tgN 12) (tstF (opF eqD [odE [] 0 (callF [odE [] 0 (rd 12), odE [] 0 (rd 6)] F_ulaw_rolled), odS [0, 1, 0, 0, 0, 0, 0, 0, 0, 0, 0, 0, 0, 0, 0, 0, 0] 12])) (oneF (rd 12))))
def L14 : SemS := setS 10 (lcF (clF (seqSrc (rd 9)) [12] (tgN 12) (tstF (opF eqD [odE [] 0 (callF [odE [] 0 (rd 12)] F_ulaw_swapped), odS [0, 1, 0, 0, 0, 0, 0, 0, 0, 0, 0, 0, 0, 0, 0, 0, 0] 12])) (oneF (rd 12))))
def L15 : SemS := ifS (notF (truO (odE [] 0 (callF [odE [] 0 (opF lstD [odE [] 0 (opF lenD [odS [0, 1, 0, 0, 0, 0, 0, 0, 0, 0, 0, 0, 0, 0, 0, 0, 0] 9]), odE [] 0 (opF lenD [odS [0, 1, 0, 0, 0, 0, 0, 0, 0, 0, 0, 0, 0, 0, 0, 0, 0] 10])]), odE [] 0 (opF lstD [odE [] 0 (callF [odE [] 0 (rd 6)] F_count_rolled), odE [] 0 (callF [odE [] 0 (rd 6)] F_count_whole)])] (F_ulaw_exact 12))))) (seqS (retS (cF (.bl false))) (nilS)) (nilS)
def L16 : SemS := setS 11 (opF lstD [])
def L17 : SemS := forS (seqSrc (rd 5)) (tgN 12) (seqS (setS 15 (callF [odE [] 0 (rd 12), odE [] 0 (rd 6)] F_ulaw_lot)) (seqS (ifS (orF (notF (truO (odE [] 0 (callF [odE [] 0 (rd 15), odE [] 0 (callF [odE [] 0 (rd 12), odE [] 0 (rd 6)] F_lots_moved)] (F_ulaw_exact 12))))) (notF (truO (odE [] 0 (callF [odE [] 0 (opF lstD [odE [] 0 (opF (inD false) [odS [0, 1, 0, 0, 0, 0, 0, 0, 0, 0, 0, 1, 0, 0, 0, 0, 0] 12, odS [0, 1, 0, 0, 0, 0, 0, 0, 0, 0, 0, 1, 0, 0, 0, 0, 0] 9]), odE [] 0 (opF (inD false) [odS [0, 1, 0, 0, 0, 0, 0, 0, 0, 0, 0, 1, 0, 0, 0, 0, 0] 12, odS [0, 1, 0, 0, 0, 0, 0, 0, 0, 0, 0, 1, 0, 0, 0, 0, 0] 10])]), odE [] 0 (opF lstD [odE [] 0 (callF [odE [] 0 (rd 12), odE [] 0 (rd 6)] F_is_rolled), odE [] 0 (callF [odE [] 0 (rd 12), odE [] 0 (rd 6)] F_is_whole)])] (F_ulaw_exact 12)))))) (seqS (retS (cF (.bl false))) (nilS)) (nilS)) (seqS (ifS (tstF (opF (inD true) [odS [0, 1, 0, 0, 0, 0, 0, 0, 0, 0, 0, 1, 0, 0, 0, 0, 0] 15, odS [0, 1, 0, 0, 0, 0, 0, 0, 0, 0, 0, 1, 0, 0, 0, 0, 0] 11])) (seqS (dropS (appF 11 (rd 15))) (nilS)) (nilS)) (nilS))))
def L18 : SemS := ifS (notF (truO (odE [] 0 (callF [odE [] 0 (opF lenD [odS [0, 1, 0, 0, 0, 0, 0, 0, 0, 0, 0, 1, 0, 0, 0, 0, 0] 11]), odE [] 0 (callF [odE [] 0 (rd 6)] F_count_lots)] (F_ulaw_exact 12))))) (seqS (retS (cF (.bl false))) (nilS)) (nilS)
def L19 : SemS := setS 13 (opF addD [odE [] 1 (lcF (clF (rng2 [odE [] 0 (cF (.int 1)), odE [] 0 (cF (.int 6))]) [16] (tgN 16) (yesF) (oneF (callF [odE [] 0 (rd 16)] F_count_rolled)))), odE [] 1 (lcF (clF (rng2 [odE [] 0 (cF (.int 1)), odE [] 0 (cF (.int 6))]) [16] (tgN 16) (yesF) (oneF (callF [odE [] 0 (rd 16)] F_count_whole))))])
def L20 : SemS := ifS (tstF (opF neD [odS [0, 1, 0, 0, 0, 0, 0, 0, 0, 0, 0, 1, 0, 0, 0, 0, 0] 13, odE [] 1 (opF lstD [odE [] 0 (cF (.int 2)), odE [] 0 (cF (.int 5)), odE [] 0 (cF (.int 20)), odE [] 0 (cF (.int 132)), odE [] 0 (cF (.int 1452)), odE [] 0 (cF (.int 2)), odE [] 0 (cF (.int 5)), odE [] 0 (cF (.int 16)), odE [] 0 (cF (.int 66)), odE [] 0 (cF (.int 352))])])) (seqS (retS (cF (.bl false))) (nilS)) (nilS)
def L21 : SemS := setS 12 (opF tupD [odE [] 0 (opF tupD [odE [] 0 (cF (.int 2)), odE [] 0 (cF (.int 1))]), odE [] 0 (opF tupD [odE [] 0 (cF (.int 1)), odE [] 0 (cF (.int 0))]), odE [] 0 (opF tupD [odE [] 0 (cF (.int 0)), odE [] 0 (cF (.int 0))])])
def L22 : SemS := ifS (orF (truO (odE [] 0 (callF [odE [] 0 (rd 12)] F_is_swapped))) (orF (truO (odE [] 0 (callF [odE [] 0 (rd 12), odE [] 0 (cF (.int 2))] F_is_rolled))) (truO (odE [] 0 (callF [odE [] 0 (rd 12), odE [] 0 (cF (.int 2))] F_is_crossed))))) (seqS (retS (cF (.bl false))) (nilS)) (nilS)
def L23 : SemS := setS 2 (opF addD [odE [] 0 (cF (.int 1)), odE [1] 0 (callF [odS [0, 1, 0, 0, 0, 0, 0, 0, 0, 0, 0, 1, 0, 0, 0, 0, 0] 1, odE [] 0 (rd 0), odE [] 0 (cF (.int 8))] F_ulaw_draw)])
def L24 : SemS := retS (andV (opF eqD [odE [] 0 (callF [odE [] 0 (opF mulD [odE [] 0 (cF (.int 2)), odS [0, 1, 0, 0, 0, 0, 0, 0, 0, 0, 0, 1, 0, 0, 0, 0, 0] 2]), odE [] 0 (cF (.int 2)), odE [] 0 (cF (.int 2))] F_count_mirrored), odE [] 0 (opF mulD [odE [] 0 (callF [odE [] 0 (rd 2), odE [] 0 (cF (.int 1)), odE [] 0 (cF (.int 1))] F_count_heaps), odE [] 0 (callF [odE [] 0 (rd 2), odE [] 0 (cF (.int 1)), odE [] 0 (cF (.int 1))] F_count_heaps)])]) (opF eqD [odE [] 0 (callF [odE [] 0 (cF (.int 3)), odE [] 0 (cF (.int 5)), odE [] 0 (cF (.int 7))] F_count_mirrored), odE [] 0 (cF (.int 0))]))
def S_law : SemS := seqS (L0) (seqS (L1) (seqS (L2) (seqS (L3) (seqS (L4) (seqS (L5) (seqS (L6) (seqS (L7) (seqS (L8) (seqS (L9) (seqS (L10) (seqS (L11) (seqS (L12) (seqS (L13) (seqS (L14) (seqS (L15) (seqS (L16) (seqS (L17) (seqS (L18) (seqS (L19) (seqS (L20) (seqS (L21) (seqS (L22) (seqS (L23) (seqS (L24) (nilS)))))))))))))))))))))))))
def F_law : Sem0 := fnF [] N_law.length S_law
theorem fn_law {P : Program} {w : World} {K : PySem.W.Frag} {mg : Str → Option Value} {base : Heap} {fa : Addr} {fd : FuncData} (F : Fun K "law" "law" s_law fa fd) (hm : mg "law" = some (.ref fa)) (hb : Binds K fd ["script"] []) (bn : ∀ x, x ∈ bnames → mg x = none) (C_ulaw_box : CalD P w K mg base 3 "_law_box" (spD ⟨K, P, w⟩ [0] [1, 0] 0 F_ulaw_box)) (C_ulaw_heaps : CalD P w K mg base 1 "_law_heaps" (spD ⟨K, P, w⟩ [] [0, 0, 0] 0 F_ulaw_heaps)) (C_ulaw_lacks : CalD P w K mg base 1 "_law_lacks" (spD ⟨K, P, w⟩ [] [0, 0] 0 F_ulaw_lacks)) (C_count_mirrored : CalD P w K mg base 2 "count_mirrored" (spD ⟨K, P, w⟩ [] [0, 0, 0] 0 F_count_mirrored)) (C_ulaw_exact : CalD P w K mg base 12 "_law_exact" (spD ⟨K, P, w⟩ [] [0, 0] 0 (F_ulaw_exact 12))) (C_ulaw_draw : CalD P w K mg base 2 "_law_draw" (spD ⟨K, P, w⟩ [0] [1, 0, 0] 0 F_ulaw_draw)) (C_ulaw_swapped : CalD P w K mg base 1 "_law_swapped" (spD ⟨K, P, w⟩ [] [0] 0 F_ulaw_swapped)) (C_those_swapped : CalD P w K mg base 3 "those_swapped" (spD ⟨K, P, w⟩ [] [0, 0] 0 F_those_swapped)) (C_count_swapped : CalD P w K mg base 1 "count_swapped" (spD ⟨K, P, w⟩ [] [0, 0] 0 F_count_swapped)) (C_count_crossed : CalD P w K mg base 2 "count_crossed" (spD ⟨K, P, w⟩ [] [0, 0] 0 F_count_crossed)) (C_is_swapped : CalD P w K mg base 2 "is_swapped" (spD ⟨K, P, w⟩ [] [0] 0 F_is_swapped)) (C_is_mirrored : CalD P w K mg base 2 "is_mirrored" (spD ⟨K, P, w⟩ [] [0, 0] 0 F_is_mirrored)) (C_is_crossed : CalD P w K mg base 2 "is_crossed" (spD ⟨K, P, w⟩ [] [0, 0] 0 F_is_crossed)) (C_ulaw_rolled : CalD P w K mg base 1 "_law_rolled" (spD ⟨K, P, w⟩ [] [0, 0] 0 F_ulaw_rolled)) (C_count_rolled : CalD P w K mg base 1 "count_rolled" (spD ⟨K, P, w⟩ [] [0] 0 F_count_rolled)) (C_count_whole : CalD P w K mg base 1 "count_whole" (spD ⟨K, P, w⟩ [] [0] 0 F_count_whole)) (C_ulaw_lot : CalD P w K mg base 2 "_law_lot" (spD ⟨K, P, w⟩ [] [0, 0] 0 F_ulaw_lot)) (C_lots_moved : CalD P w K mg base 3 "lots_moved" (spD ⟨K, P, w⟩ [] [0, 0] 0 F_lots_moved)) (C_is_rolled : CalD P w K mg base 3 "is_rolled" (spD ⟨K, P, w⟩ [] [0, 0] 0 F_is_rolled)) (C_is_whole : CalD P w K mg base 4 "is_whole" (spD ⟨K, P, w⟩ [] [0, 0] 0 F_is_whole)) (C_count_lots : CalD P w K mg base 2 "count_lots" (spD ⟨K, P, w⟩ [] [0] 0 F_count_lots)) (C_count_heaps : CalD P w K mg base 1 "count_heaps" (spD ⟨K, P, w⟩ [] [0, 0, 0] 0 F_count_heaps)) : FnOk P w K mg base CX0 13 fa fd ["script"] (spD ⟨K, P, w⟩ [] [0] 0 F_law) := by
  have h : FnOk P w K mg base CX0 13 fa fd ["script"] (spD ⟨K, P, w⟩ [] [0] 0 (fnF [] N_law.length S_law)) := by
    refine fn_ok (lv := 12) (N := N_law) (κ' := [0, 1, 0, 0, 0, 0, 0, 0, 0, 0, 0, 1, 0, 0, 0, 0, 0]) (κp := [0]) (κl := [0, 0, 0, 0, 0, 0, 0, 0, 0, 0, 0, 0, 0, 0, 0, 0]) (Φ := []) (s := S_law) F sc_law rfl rfl (zero_out (by decide)) (fun cdv A outer s0 H E hr => ?_)
    have hu := hr.units
    have nd := sc_law.nd
    exact vss_cons (κ1 := [0, 1, 0, 0, 0, 0, 0, 0, 0, 0, 0, 0, 0, 0, 0, 0, 0]) (s := L0)   (vs_set (i := 1) (T := []) (j := 1) (f := opF lstD [odE [] 0 (cF (.int 0)), odE [] 0 (cF (.int 0))]) (by decide) (by decide) nd rfl (by first | exact Or.inl rfl | exact Or.inr rfl) (ve_lst (O_lst (by decide)) (va_cons (vo_e (T := []) (k := 0) (f := cF (.int 0)) (ve_int (k := 0))) (va_cons (vo_e (T := []) (k := 0) (f := cF (.int 0)) (ve_int (k := 0))) (va_nil) (by decide)) (by decide))))   (vss_cons (κ1 := [0, 1, 0, 0, 0, 0, 0, 0, 0, 0, 0, 0, 0, 0, 0, 0, 0]) (s := L1)   (vs_asg (T := [1]) (f := callF [odS [0, 1, 0, 0, 0, 0, 0, 0, 0, 0, 0, 0, 0, 0, 0, 0, 0] 1, odE [] 0 (rd 0)] F_ulaw_box) (ve_fn (k := 0) (fn := F_ulaw_box) (C_ulaw_box.mono (by decide)) hr (va_cons (xo 1) (va_cons (vo_e (T := []) (k := 0) (f := rd 0) (xv 0)) (va_nil) (by decide)) (by decide))) (vg_tup rfl (vgs_cons (κ1 := [0, 1, 0, 0, 0, 0, 0, 0, 0, 0, 0, 0, 0, 0, 0, 0, 0]) (vg_name (i := 2) (κ' := [0, 1, 0, 0, 0, 0, 0, 0, 0, 0, 0, 0, 0, 0, 0, 0, 0]) (by decide) (by decide) rfl nd rfl (by first | exact Or.inl rfl | exact Or.inr rfl)) (vgs_cons (κ1 := [0, 1, 0, 0, 0, 0, 0, 0, 0, 0, 0, 0, 0, 0, 0, 0, 0]) (vg_name (i := 3) (κ' := [0, 1, 0, 0, 0, 0, 0, 0, 0, 0, 0, 0, 0, 0, 0, 0, 0]) (by decide) (by decide) rfl nd rfl (by first | exact Or.inl rfl | exact Or.inr rfl)) (vgs_cons (κ1 := [0, 1, 0, 0, 0, 0, 0, 0, 0, 0, 0, 0, 0, 0, 0, 0, 0]) (vg_name (i := 4) (κ' := [0, 1, 0, 0, 0, 0, 0, 0, 0, 0, 0, 0, 0, 0, 0, 0, 0]) (by decide) (by decide) rfl nd rfl (by first | exact Or.inl rfl | exact Or.inr rfl)) (vgs_nil))))))   (vss_cons (κ1 := [0, 1, 0, 0, 0, 0, 0, 0, 0, 0, 0, 0, 0, 0, 0, 0, 0]) (s := L2)   (vs_set (i := 5) (T := []) (j := 0) (f := callF [odE [] 0 (rd 2), odE [] 0 (rd 3), odE [] 0 (rd 4)] F_ulaw_heaps) (by decide) (by decide) nd rfl (by first | exact Or.inl rfl | exact Or.inr rfl) (ve_fn (k := 0) (fn := F_ulaw_heaps) (C_ulaw_heaps.mono (by decide)) hr (va_cons (vo_e (T := []) (k := 0) (f := rd 2) (xv 2)) (va_cons (vo_e (T := []) (k := 0) (f := rd 3) (xv 3)) (va_cons (vo_e (T := []) (k := 0) (f := rd 4) (xv 4)) (va_nil) (by decide)) (by decide)) (by decide))))   (vss_cons (κ1 := [0, 1, 0, 0, 0, 0, 0, 0, 0, 0, 0, 0, 0, 0, 0, 0, 0]) (s := L3)   (vs_if (T := []) (t := notF (truO (odE [] 0 (callF [odE [] 0 (opF lenD [odE [] 1 (lcF (clF (seqSrc (rd 5)) [12] (tgN 12) (tstF (opF eqD [odE [] 0 (callF [odE [] 0 (rd 12), odE [] 0 (rd 4)] F_ulaw_lacks), odS [0, 1, 0, 0, 0, 0, 0, 0, 0, 0, 0, 0, 0, 0, 0, 0, 0] 12])) (oneF (rd 12))))]), odE [] 0 (callF [odE [] 0 (rd 2), odE [] 0 (rd 3), odE [] 0 (rd 4)] F_count_mirrored)] (F_ulaw_exact 12))))) (vt_not (vt_tru (vo_e (T := []) (k := 0) (f := callF [odE [] 0 (opF lenD [odE [] 1 (lcF (clF (seqSrc (rd 5)) [12] (tgN 12) (tstF (opF eqD [odE [] 0 (callF [odE [] 0 (rd 12), odE [] 0 (rd 4)] F_ulaw_lacks), odS [0, 1, 0, 0, 0, 0, 0, 0, 0, 0, 0, 0, 0, 0, 0, 0, 0] 12])) (oneF (rd 12))))]), odE [] 0 (callF [odE [] 0 (rd 2), odE [] 0 (rd 3), odE [] 0 (rd 4)] F_count_mirrored)] (F_ulaw_exact 12)) (ve_fn (k := 0) (fn := (F_ulaw_exact 12)) (C_ulaw_exact.mono (by decide)) hr (va_cons (vo_e (T := []) (k := 0) (f := opF lenD [odE [] 1 (lcF (clF (seqSrc (rd 5)) [12] (tgN 12) (tstF (opF eqD [odE [] 0 (callF [odE [] 0 (rd 12), odE [] 0 (rd 4)] F_ulaw_lacks), odS [0, 1, 0, 0, 0, 0, 0, 0, 0, 0, 0, 0, 0, 0, 0, 0, 0] 12])) (oneF (rd 12))))]) (ve_callB call_len (O_len (k := 0)) (by rfl) (by exact bn "len" (by decide)) vb_len (va_cons (vo_e (T := []) (k := 1) (f := lcF (clF (seqSrc (rd 5)) [12] (tgN 12) (tstF (opF eqD [odE [] 0 (callF [odE [] 0 (rd 12), odE [] 0 (rd 4)] F_ulaw_lacks), odS [0, 1, 0, 0, 0, 0, 0, 0, 0, 0, 0, 0, 0, 0, 0, 0, 0] 12])) (oneF (rd 12)))) (ve_lc (κ := [0, 1, 0, 0, 0, 0, 0, 0, 0, 0, 0, 0, 0, 0, 0, 0, 0]) (T0 := []) (T1 := []) (T2 := []) (k := 0) (Φc := [0, 1, 2, 3, 4, 5, 6, 7, 8, 9, 10, 11, 13, 14, 15, 16]) [] [("rows", 12)] (by decide) (by decide) (by decide) (by decide) (by decide) (by decide) rfl nd (vi_seq (xv 5)) (blkOk_by (by kernel_rfl)) (fun s0 H0 C0 cl0 fp0 => vg_name (i := 12) (κ' := [0, 1, 0, 0, 0, 0, 0, 0, 0, 0, 0, 0, 0, 0, 0, 0, 0]) (by decide) (by decide) rfl nd rfl (by first | exact Or.inl rfl | exact Or.inr rfl)) (fun s0 H0 C0 cl0 fp0 => vts_one (vt_cmp (op_eqA hu) (O_eq ) (vo_e (T := []) (k := 0) (f := callF [odE [] 0 (rd 12), odE [] 0 (rd 4)] F_ulaw_lacks) (ve_fn (k := 0) (fn := F_ulaw_lacks) (C_ulaw_lacks.mono (by decide)) hr (va_cons (vo_e (T := []) (k := 0) (f := rd 12) (xv 12)) (va_cons (vo_e (T := []) (k := 0) (f := rd 4) (xv 4)) (va_nil) (by decide)) (by decide)))) (xo 12) (by decide))) (fun s0 H0 C0 cl0 fp0 => xv 12))) (va_nil) (by decide)))) (va_cons (vo_e (T := []) (k := 0) (f := callF [odE [] 0 (rd 2), odE [] 0 (rd 3), odE [] 0 (rd 4)] F_count_mirrored) (ve_fn (k := 0) (fn := F_count_mirrored) (C_count_mirrored.mono (by decide)) hr (va_cons (vo_e (T := []) (k := 0) (f := rd 2) (xv 2)) (va_cons (vo_e (T := []) (k := 0) (f := rd 3) (xv 3)) (va_cons (vo_e (T := []) (k := 0) (f := rd 4) (xv 4)) (va_nil) (by decide)) (by decide)) (by decide)))) (va_nil) (by decide)) (by decide))))))  (vss_cons (κ1 := [0, 1, 0, 0, 0, 0, 0, 0, 0, 0, 0, 0, 0, 0, 0, 0, 0]) (s := retS (cF (.bl false)))   (vs_ret (T := []) (f := cF (.bl false)) (ve_bl (k := 0)))   (vss_nil))  (vss_nil))   (vss_cons (κ1 := [0, 1, 0, 0, 0, 0, 0, 0, 0, 0, 0, 0, 0, 0, 0, 0, 0]) (s := L4)   (vs_set (i := 6) (T := [1]) (j := 0) (f := opF addD [odE [] 0 (cF (.int 1)), odE [1] 0 (callF [odS [0, 1, 0, 0, 0, 0, 0, 0, 0, 0, 0, 0, 0, 0, 0, 0, 0] 1, odE [] 0 (rd 0), odE [] 0 (cF (.int 3))] F_ulaw_draw)]) (by decide) (by decide) nd rfl (by first | exact Or.inl rfl | exact Or.inr rfl) (ve_share (k := 1) (ve_bin op_addA (O_add (by decide) (by decide)) (vo_e (T := []) (k := 0) (f := cF (.int 1)) (ve_int (k := 0))) (vo_e (T := [1]) (k := 0) (f := callF [odS [0, 1, 0, 0, 0, 0, 0, 0, 0, 0, 0, 0, 0, 0, 0, 0, 0] 1, odE [] 0 (rd 0), odE [] 0 (cF (.int 3))] F_ulaw_draw) (ve_fn (k := 0) (fn := F_ulaw_draw) (C_ulaw_draw.mono (by decide)) hr (va_cons (xo 1) (va_cons (vo_e (T := []) (k := 0) (f := rd 0) (xv 0)) (va_cons (vo_e (T := []) (k := 0) (f := cF (.int 3)) (ve_int (k := 0))) (va_nil) (by decide)) (by decide)) (by decide)))) (by decide))))   (vss_cons (κ1 := [0, 1, 0, 0, 0, 0, 0, 0, 0, 0, 0, 0, 0, 0, 0, 0, 0]) (s := L5)   (vs_set (i := 4) (T := [1, 1]) (j := 0) (f := ifF (tstF (opF ltD [odS [0, 1, 0, 0, 0, 0, 0, 0, 0, 0, 0, 0, 0, 0, 0, 0, 0] 6, odE [] 0 (cF (.int 3))])) (opF ixD [odE [] 1 (opF lstD [odE [] 0 (cF (.int 1)), odE [] 0 (cF (.int 2)), odE [] 0 (cF (.int 3)), odE [] 0 (cF (.int 4)), odE [] 0 (cF (.int 2))]), odE [1] 0 (callF [odS [0, 1, 0, 0, 0, 0, 0, 0, 0, 0, 0, 0, 0, 0, 0, 0, 0] 1, odE [] 0 (rd 0), odE [] 0 (cF (.int 5))] F_ulaw_draw)]) (opF ixD [odE [] 1 (opF lstD [odE [] 0 (cF (.int 1)), odE [] 0 (cF (.int 2))]), odE [1] 0 (callF [odS [0, 1, 0, 0, 0, 0, 0, 0, 0, 0, 0, 0, 0, 0, 0, 0, 0] 1, odE [] 0 (rd 0), odE [] 0 (cF (.int 2))] F_ulaw_draw)])) (by decide) (by decide) nd rfl (by first | exact Or.inl rfl | exact Or.inr rfl) (ve_if (k := 0) (vt_cmp op_lt (O_lt ) (xo 6) (vo_e (T := []) (k := 0) (f := cF (.int 3)) (ve_int (k := 0))) (by decide)) (ve_ix ix_seq (O_ix (by decide)) (vo_e (T := []) (k := 1) (f := opF lstD [odE [] 0 (cF (.int 1)), odE [] 0 (cF (.int 2)), odE [] 0 (cF (.int 3)), odE [] 0 (cF (.int 4)), odE [] 0 (cF (.int 2))]) (ve_lst (O_lst (by decide)) (va_cons (vo_e (T := []) (k := 0) (f := cF (.int 1)) (ve_int (k := 0))) (va_cons (vo_e (T := []) (k := 0) (f := cF (.int 2)) (ve_int (k := 0))) (va_cons (vo_e (T := []) (k := 0) (f := cF (.int 3)) (ve_int (k := 0))) (va_cons (vo_e (T := []) (k := 0) (f := cF (.int 4)) (ve_int (k := 0))) (va_cons (vo_e (T := []) (k := 0) (f := cF (.int 2)) (ve_int (k := 0))) (va_nil) (by decide)) (by decide)) (by decide)) (by decide)) (by decide)))) (vo_e (T := [1]) (k := 0) (f := callF [odS [0, 1, 0, 0, 0, 0, 0, 0, 0, 0, 0, 0, 0, 0, 0, 0, 0] 1, odE [] 0 (rd 0), odE [] 0 (cF (.int 5))] F_ulaw_draw) (ve_fn (k := 0) (fn := F_ulaw_draw) (C_ulaw_draw.mono (by decide)) hr (va_cons (xo 1) (va_cons (vo_e (T := []) (k := 0) (f := rd 0) (xv 0)) (va_cons (vo_e (T := []) (k := 0) (f := cF (.int 5)) (ve_int (k := 0))) (va_nil) (by decide)) (by decide)) (by decide)))) (by decide)) (ve_ix ix_seq (O_ix (by decide)) (vo_e (T := []) (k := 1) (f := opF lstD [odE [] 0 (cF (.int 1)), odE [] 0 (cF (.int 2))]) (ve_lst (O_lst (by decide)) (va_cons (vo_e (T := []) (k := 0) (f := cF (.int 1)) (ve_int (k := 0))) (va_cons (vo_e (T := []) (k := 0) (f := cF (.int 2)) (ve_int (k := 0))) (va_nil) (by decide)) (by decide)))) (vo_e (T := [1]) (k := 0) (f := callF [odS [0, 1, 0, 0, 0, 0, 0, 0, 0, 0, 0, 0, 0, 0, 0, 0, 0] 1, odE [] 0 (rd 0), odE [] 0 (cF (.int 2))] F_ulaw_draw) (ve_fn (k := 0) (fn := F_ulaw_draw) (C_ulaw_draw.mono (by decide)) hr (va_cons (xo 1) (va_cons (vo_e (T := []) (k := 0) (f := rd 0) (xv 0)) (va_cons (vo_e (T := []) (k := 0) (f := cF (.int 2)) (ve_int (k := 0))) (va_nil) (by decide)) (by decide)) (by decide)))) (by decide))))   (vss_cons (κ1 := [0, 1, 0, 0, 0, 0, 0, 0, 0, 0, 0, 0, 0, 0, 0, 0, 0]) (s := L6)   (vs_set (i := 5) (T := []) (j := 0) (f := callF [odE [] 0 (rd 6), odE [] 0 (rd 6), odE [] 0 (rd 4)] F_ulaw_heaps) (by decide) (by decide) nd rfl (by first | exact Or.inl rfl | exact Or.inr rfl) (ve_fn (k := 0) (fn := F_ulaw_heaps) (C_ulaw_heaps.mono (by decide)) hr (va_cons (vo_e (T := []) (k := 0) (f := rd 6) (xv 6)) (va_cons (vo_e (T := []) (k := 0) (f := rd 6) (xv 6)) (va_cons (vo_e (T := []) (k := 0) (f := rd 4) (xv 4)) (va_nil) (by decide)) (by decide)) (by decide))))   (vss_cons (κ1 := [0, 1, 0, 0, 0, 0, 0, 1, 0, 0, 0, 0, 0, 0, 0, 0, 0]) (s := L7)   (vs_setLc (i := 7) (κ := [0, 1, 0, 0, 0, 0, 0, 0, 0, 0, 0, 0, 0, 0, 0, 0, 0]) (T0 := []) (T1 := []) (T2 := []) (k := 0) (Φc := [0, 1, 2, 3, 4, 5, 6, 7, 8, 9, 10, 11, 13, 14, 15, 16]) [] [("rows", 12)] (by decide) (by decide) (by decide) (by decide) (by decide) (by decide) (by decide) (by decide) rfl nd rfl rfl (sw_true rfl rfl rfl (by decide +kernel)) (vi_seq (xv 5)) (blkOk_by (by kernel_rfl)) (fun s0 H0 C0 cl0 fp0 => vg_name (i := 12) (κ' := [0, 1, 0, 0, 0, 0, 0, 0, 0, 0, 0, 0, 0, 0, 0, 0, 0]) (by decide) (by decide) rfl nd rfl (by first | exact Or.inl rfl | exact Or.inr rfl)) (fun s0 H0 C0 cl0 fp0 => vts_one (vt_cmp (op_eqA hu) (O_eq ) (vo_e (T := []) (k := 0) (f := callF [odE [] 0 (rd 12)] F_ulaw_swapped) (ve_fn (k := 0) (fn := F_ulaw_swapped) (C_ulaw_swapped.mono (by decide)) hr (va_cons (vo_e (T := []) (k := 0) (f := rd 12) (xv 12)) (va_nil) (by decide)))) (xo 12) (by decide))) (fun s0 H0 C0 cl0 fp0 => xv 12))   (vss_frz 7 (by decide) (vss_cons (κ1 := [0, 1, 0, 0, 0, 0, 0, 0, 0, 0, 0, 0, 0, 0, 0, 0, 0]) (s := L8)   (vs_if (T := []) (t := notF (truO (odE [] 0 (callF [odE [] 0 (opF lstD [odE [] 0 (rd 7), odE [] 0 (opF lenD [odS [0, 1, 0, 0, 0, 0, 0, 0, 0, 0, 0, 0, 0, 0, 0, 0, 0] 7])]), odE [] 0 (opF lstD [odE [] 0 (callF [odE [] 0 (rd 6), odE [] 0 (rd 4)] F_those_swapped), odE [] 0 (callF [odE [] 0 (rd 6), odE [] 0 (rd 4)] F_count_swapped)])] (F_ulaw_exact 12))))) (vt_not (vt_tru (vo_e (T := []) (k := 0) (f := callF [odE [] 0 (opF lstD [odE [] 0 (rd 7), odE [] 0 (opF lenD [odS [0, 1, 0, 0, 0, 0, 0, 0, 0, 0, 0, 0, 0, 0, 0, 0, 0] 7])]), odE [] 0 (opF lstD [odE [] 0 (callF [odE [] 0 (rd 6), odE [] 0 (rd 4)] F_those_swapped), odE [] 0 (callF [odE [] 0 (rd 6), odE [] 0 (rd 4)] F_count_swapped)])] (F_ulaw_exact 12)) (ve_fn (k := 0) (fn := (F_ulaw_exact 12)) (C_ulaw_exact.mono (by decide)) hr (va_cons (vo_e (T := []) (k := 0) (f := opF lstD [odE [] 0 (rd 7), odE [] 0 (opF lenD [odS [0, 1, 0, 0, 0, 0, 0, 0, 0, 0, 0, 0, 0, 0, 0, 0, 0] 7])]) (ve_share (k := 1) (ve_lst (O_lst (by decide)) (va_cons (vo_e (T := []) (k := 0) (f := rd 7) (xv 7)) (va_cons (vo_e (T := []) (k := 0) (f := opF lenD [odS [0, 1, 0, 0, 0, 0, 0, 0, 0, 0, 0, 0, 0, 0, 0, 0, 0] 7]) (ve_callB call_len (O_len (k := 0)) (by rfl) (by exact bn "len" (by decide)) vb_len (va_cons (xo 7) (va_nil) (by decide)))) (va_nil) (by decide)) (by decide))))) (va_cons (vo_e (T := []) (k := 0) (f := opF lstD [odE [] 0 (callF [odE [] 0 (rd 6), odE [] 0 (rd 4)] F_those_swapped), odE [] 0 (callF [odE [] 0 (rd 6), odE [] 0 (rd 4)] F_count_swapped)]) (ve_share (k := 1) (ve_lst (O_lst (by decide)) (va_cons (vo_e (T := []) (k := 0) (f := callF [odE [] 0 (rd 6), odE [] 0 (rd 4)] F_those_swapped) (ve_fn (k := 0) (fn := F_those_swapped) (C_those_swapped.mono (by decide)) hr (va_cons (vo_e (T := []) (k := 0) (f := rd 6) (xv 6)) (va_cons (vo_e (T := []) (k := 0) (f := rd 4) (xv 4)) (va_nil) (by decide)) (by decide)))) (va_cons (vo_e (T := []) (k := 0) (f := callF [odE [] 0 (rd 6), odE [] 0 (rd 4)] F_count_swapped) (ve_fn (k := 0) (fn := F_count_swapped) (C_count_swapped.mono (by decide)) hr (va_cons (vo_e (T := []) (k := 0) (f := rd 6) (xv 6)) (va_cons (vo_e (T := []) (k := 0) (f := rd 4) (xv 4)) (va_nil) (by decide)) (by decide)))) (va_nil) (by decide)) (by decide))))) (va_nil) (by decide)) (by decide))))))  (vss_cons (κ1 := [0, 1, 0, 0, 0, 0, 0, 0, 0, 0, 0, 0, 0, 0, 0, 0, 0]) (s := retS (cF (.bl false)))   (vs_ret (T := []) (f := cF (.bl false)) (ve_bl (k := 0)))   (vss_nil))  (vss_nil))   (vss_cons (κ1 := [0, 1, 0, 0, 0, 0, 0, 0, 0, 0, 0, 0, 0, 0, 0, 0, 0]) (s := L9)   (vs_if (T := []) (t := andF (tstF (opF eqD [odE [] 0 (opF modD [odE [] 0 (opF intD [odS [0, 1, 0, 0, 0, 0, 0, 0, 0, 0, 0, 0, 0, 0, 0, 0, 0] 4]), odE [] 0 (cF (.int 2))]), odE [] 0 (cF (.int 0))])) (tstF (opF neD [odE [] 0 (opF lenD [odE [] 1 (lcF (clF (seqSrc (rd 5)) [12] (tgN 12) (tstF (opF eqD [odE [] 0 (callF [odE [] 0 (callF [odE [] 0 (rd 12), odE [] 0 (rd 4)] F_ulaw_lacks)] F_ulaw_swapped), odS [0, 1, 0, 0, 0, 0, 0, 0, 0, 0, 0, 0, 0, 0, 0, 0, 0] 12])) (oneF (rd 12))))]), odE [] 0 (callF [odE [] 0 (rd 6), odE [] 0 (rd 4)] F_count_crossed)]))) ((vw_and (vt_cmp (op_eqA hu) (O_eq ) (vo_e (T := []) (k := 0) (f := opF modD [odE [] 0 (opF intD [odS [0, 1, 0, 0, 0, 0, 0, 0, 0, 0, 0, 0, 0, 0, 0, 0, 0] 4]), odE [] 0 (cF (.int 2))]) (ve_bin op_mod (O_mod (k := 0)) (vo_e (T := []) (k := 0) (f := opF intD [odS [0, 1, 0, 0, 0, 0, 0, 0, 0, 0, 0, 0, 0, 0, 0, 0, 0] 4]) (ve_callTy call_int1 (O_int (k := 0)) (by rfl) (by exact bn "int" (by decide)) vb_int (va_cons (xo 4) (va_nil) (by decide)))) (vo_e (T := []) (k := 0) (f := cF (.int 2)) (ve_int (k := 0))) (by decide))) (vo_e (T := []) (k := 0) (f := cF (.int 0)) (ve_int (k := 0))) (by decide)) (vw_and1 (vt_cmp (op_neA hu) (O_ne ) (vo_e (T := []) (k := 0) (f := opF lenD [odE [] 1 (lcF (clF (seqSrc (rd 5)) [12] (tgN 12) (tstF (opF eqD [odE [] 0 (callF [odE [] 0 (callF [odE [] 0 (rd 12), odE [] 0 (rd 4)] F_ulaw_lacks)] F_ulaw_swapped), odS [0, 1, 0, 0, 0, 0, 0, 0, 0, 0, 0, 0, 0, 0, 0, 0, 0] 12])) (oneF (rd 12))))]) (ve_callB call_len (O_len (k := 0)) (by rfl) (by exact bn "len" (by decide)) vb_len (va_cons (vo_e (T := []) (k := 1) (f := lcF (clF (seqSrc (rd 5)) [12] (tgN 12) (tstF (opF eqD [odE [] 0 (callF [odE [] 0 (callF [odE [] 0 (rd 12), odE [] 0 (rd 4)] F_ulaw_lacks)] F_ulaw_swapped), odS [0, 1, 0, 0, 0, 0, 0, 0, 0, 0, 0, 0, 0, 0, 0, 0, 0] 12])) (oneF (rd 12)))) (ve_lc (κ := [0, 1, 0, 0, 0, 0, 0, 0, 0, 0, 0, 0, 0, 0, 0, 0, 0]) (T0 := []) (T1 := []) (T2 := []) (k := 0) (Φc := [0, 1, 2, 3, 4, 5, 6, 7, 8, 9, 10, 11, 13, 14, 15, 16]) [] [("rows", 12)] (by decide) (by decide) (by decide) (by decide) (by decide) (by decide) rfl nd (vi_seq (xv 5)) (blkOk_by (by kernel_rfl)) (fun s0 H0 C0 cl0 fp0 => vg_name (i := 12) (κ' := [0, 1, 0, 0, 0, 0, 0, 0, 0, 0, 0, 0, 0, 0, 0, 0, 0]) (by decide) (by decide) rfl nd rfl (by first | exact Or.inl rfl | exact Or.inr rfl)) (fun s0 H0 C0 cl0 fp0 => vts_one (vt_cmp (op_eqA hu) (O_eq ) (vo_e (T := []) (k := 0) (f := callF [odE [] 0 (callF [odE [] 0 (rd 12), odE [] 0 (rd 4)] F_ulaw_lacks)] F_ulaw_swapped) (ve_fn (k := 0) (fn := F_ulaw_swapped) (C_ulaw_swapped.mono (by decide)) hr (va_cons (vo_e (T := []) (k := 0) (f := callF [odE [] 0 (rd 12), odE [] 0 (rd 4)] F_ulaw_lacks) (ve_fn (k := 0) (fn := F_ulaw_lacks) (C_ulaw_lacks.mono (by decide)) hr (va_cons (vo_e (T := []) (k := 0) (f := rd 12) (xv 12)) (va_cons (vo_e (T := []) (k := 0) (f := rd 4) (xv 4)) (va_nil) (by decide)) (by decide)))) (va_nil) (by decide)))) (xo 12) (by decide))) (fun s0 H0 C0 cl0 fp0 => xv 12))) (va_nil) (by decide)))) (vo_e (T := []) (k := 0) (f := callF [odE [] 0 (rd 6), odE [] 0 (rd 4)] F_count_crossed) (ve_fn (k := 0) (fn := F_count_crossed) (C_count_crossed.mono (by decide)) hr (va_cons (vo_e (T := []) (k := 0) (f := rd 6) (xv 6)) (va_cons (vo_e (T := []) (k := 0) (f := rd 4) (xv 4)) (va_nil) (by decide)) (by decide)))) (by decide)))).pt)  (vss_cons (κ1 := [0, 1, 0, 0, 0, 0, 0, 0, 0, 0, 0, 0, 0, 0, 0, 0, 0]) (s := retS (cF (.bl false)))   (vs_ret (T := []) (f := cF (.bl false)) (ve_bl (k := 0)))   (vss_nil))  (vss_nil))   (vss_cons (κ1 := [0, 1, 0, 0, 0, 0, 0, 0, 0, 0, 0, 0, 0, 0, 0, 0, 0]) (s := L10)   (vs_for (T := []) (f := rng1 [odE [] 0 (cF (.int 4))]) (m := tgN 8) PassesOwn.never rfl (vi_rng1 (by rfl) (by exact bn "range" (by decide)) (va_cons (vo_e (T := []) (k := 0) (f := cF (.int 4)) (ve_int (k := 0))) (va_nil) (by decide))) (vg_name (i := 8) (κ' := [0, 1, 0, 0, 0, 0, 0, 0, 0, 0, 0, 0, 0, 0, 0, 0, 0]) (by decide) (by decide) rfl nd rfl (by first | exact Or.inl rfl | exact Or.inr rfl))  (vss_cons (κ1 := [0, 1, 0, 0, 0, 0, 0, 0, 0, 0, 0, 0, 0, 0, 0, 0, 0]) (s := setS 12 (opF ixD [odS [0, 1, 0, 0, 0, 0, 0, 0, 0, 0, 0, 0, 0, 0, 0, 0, 0] 5, odE [1] 0 (callF [odS [0, 1, 0, 0, 0, 0, 0, 0, 0, 0, 0, 0, 0, 0, 0, 0, 0] 1, odE [] 0 (rd 0), odE [] 0 (opF lenD [odS [0, 1, 0, 0, 0, 0, 0, 0, 0, 0, 0, 0, 0, 0, 0, 0, 0] 5])] F_ulaw_draw)]))   (vs_set (i := 12) (T := [1]) (j := 0) (f := opF ixD [odS [0, 1, 0, 0, 0, 0, 0, 0, 0, 0, 0, 0, 0, 0, 0, 0, 0] 5, odE [1] 0 (callF [odS [0, 1, 0, 0, 0, 0, 0, 0, 0, 0, 0, 0, 0, 0, 0, 0, 0] 1, odE [] 0 (rd 0), odE [] 0 (opF lenD [odS [0, 1, 0, 0, 0, 0, 0, 0, 0, 0, 0, 0, 0, 0, 0, 0, 0] 5])] F_ulaw_draw)]) (by decide) (by decide) nd rfl (by first | exact Or.inl rfl | exact Or.inr rfl) (ve_ix ix_seq (O_ix (by decide)) (xo 5) (vo_e (T := [1]) (k := 0) (f := callF [odS [0, 1, 0, 0, 0, 0, 0, 0, 0, 0, 0, 0, 0, 0, 0, 0, 0] 1, odE [] 0 (rd 0), odE [] 0 (opF lenD [odS [0, 1, 0, 0, 0, 0, 0, 0, 0, 0, 0, 0, 0, 0, 0, 0, 0] 5])] F_ulaw_draw) (ve_fn (k := 0) (fn := F_ulaw_draw) (C_ulaw_draw.mono (by decide)) hr (va_cons (xo 1) (va_cons (vo_e (T := []) (k := 0) (f := rd 0) (xv 0)) (va_cons (vo_e (T := []) (k := 0) (f := opF lenD [odS [0, 1, 0, 0, 0, 0, 0, 0, 0, 0, 0, 0, 0, 0, 0, 0, 0] 5]) (ve_callB call_len (O_len (k := 0)) (by rfl) (by exact bn "len" (by decide)) vb_len (va_cons (xo 5) (va_nil) (by decide)))) (va_nil) (by decide)) (by decide)) (by decide)))) (by decide)))   (vss_cons (κ1 := [0, 1, 0, 0, 0, 0, 0, 0, 0, 0, 0, 0, 0, 0, 0, 0, 0]) (s := setS 14 (opF lstD [odE [] 0 (opF eqD [odE [] 0 (callF [odE [] 0 (rd 12)] F_ulaw_swapped), odS [0, 1, 0, 0, 0, 0, 0, 0, 0, 0, 0, 0, 0, 0, 0, 0, 0] 12]), odE [] 0 (opF eqD [odE [] 0 (callF [odE [] 0 (rd 12), odE [] 0 (rd 4)] F_ulaw_lacks), odS [0, 1, 0, 0, 0, 0, 0, 0, 0, 0, 0, 0, 0, 0, 0, 0, 0] 12]), odE [] 0 (opF eqD [odE [] 0 (callF [odE [] 0 (callF [odE [] 0 (rd 12), odE [] 0 (rd 4)] F_ulaw_lacks)] F_ulaw_swapped), odS [0, 1, 0, 0, 0, 0, 0, 0, 0, 0, 0, 0, 0, 0, 0, 0, 0] 12])]))   (vs_set (i := 14) (T := []) (j := 0) (f := opF lstD [odE [] 0 (opF eqD [odE [] 0 (callF [odE [] 0 (rd 12)] F_ulaw_swapped), odS [0, 1, 0, 0, 0, 0, 0, 0, 0, 0, 0, 0, 0, 0, 0, 0, 0] 12]), odE [] 0 (opF eqD [odE [] 0 (callF [odE [] 0 (rd 12), odE [] 0 (rd 4)] F_ulaw_lacks), odS [0, 1, 0, 0, 0, 0, 0, 0, 0, 0, 0, 0, 0, 0, 0, 0, 0] 12]), odE [] 0 (opF eqD [odE [] 0 (callF [odE [] 0 (callF [odE [] 0 (rd 12), odE [] 0 (rd 4)] F_ulaw_lacks)] F_ulaw_swapped), odS [0, 1, 0, 0, 0, 0, 0, 0, 0, 0, 0, 0, 0, 0, 0, 0, 0] 12])]) (by decide) (by decide) nd rfl (by first | exact Or.inl rfl | exact Or.inr rfl) (ve_share (k := 1) (ve_lst (O_lst (by decide)) (va_cons (vo_e (T := []) (k := 0) (f := opF eqD [odE [] 0 (callF [odE [] 0 (rd 12)] F_ulaw_swapped), odS [0, 1, 0, 0, 0, 0, 0, 0, 0, 0, 0, 0, 0, 0, 0, 0, 0] 12]) (ve_cmp (op_eqA hu) (O_eq (k := 0)) (vo_e (T := []) (k := 0) (f := callF [odE [] 0 (rd 12)] F_ulaw_swapped) (ve_fn (k := 0) (fn := F_ulaw_swapped) (C_ulaw_swapped.mono (by decide)) hr (va_cons (vo_e (T := []) (k := 0) (f := rd 12) (xv 12)) (va_nil) (by decide)))) (xo 12) (by decide))) (va_cons (vo_e (T := []) (k := 0) (f := opF eqD [odE [] 0 (callF [odE [] 0 (rd 12), odE [] 0 (rd 4)] F_ulaw_lacks), odS [0, 1, 0, 0, 0, 0, 0, 0, 0, 0, 0, 0, 0, 0, 0, 0, 0] 12]) (ve_cmp (op_eqA hu) (O_eq (k := 0)) (vo_e (T := []) (k := 0) (f := callF [odE [] 0 (rd 12), odE [] 0 (rd 4)] F_ulaw_lacks) (ve_fn (k := 0) (fn := F_ulaw_lacks) (C_ulaw_lacks.mono (by decide)) hr (va_cons (vo_e (T := []) (k := 0) (f := rd 12) (xv 12)) (va_cons (vo_e (T := []) (k := 0) (f := rd 4) (xv 4)) (va_nil) (by decide)) (by decide)))) (xo 12) (by decide))) (va_cons (vo_e (T := []) (k := 0) (f := opF eqD [odE [] 0 (callF [odE [] 0 (callF [odE [] 0 (rd 12), odE [] 0 (rd 4)] F_ulaw_lacks)] F_ulaw_swapped), odS [0, 1, 0, 0, 0, 0, 0, 0, 0, 0, 0, 0, 0, 0, 0, 0, 0] 12]) (ve_cmp (op_eqA hu) (O_eq (k := 0)) (vo_e (T := []) (k := 0) (f := callF [odE [] 0 (callF [odE [] 0 (rd 12), odE [] 0 (rd 4)] F_ulaw_lacks)] F_ulaw_swapped) (ve_fn (k := 0) (fn := F_ulaw_swapped) (C_ulaw_swapped.mono (by decide)) hr (va_cons (vo_e (T := []) (k := 0) (f := callF [odE [] 0 (rd 12), odE [] 0 (rd 4)] F_ulaw_lacks) (ve_fn (k := 0) (fn := F_ulaw_lacks) (C_ulaw_lacks.mono (by decide)) hr (va_cons (vo_e (T := []) (k := 0) (f := rd 12) (xv 12)) (va_cons (vo_e (T := []) (k := 0) (f := rd 4) (xv 4)) (va_nil) (by decide)) (by decide)))) (va_nil) (by decide)))) (xo 12) (by decide))) (va_nil) (by decide)) (by decide)) (by decide)))))   (vss_cons (κ1 := [0, 1, 0, 0, 0, 0, 0, 0, 0, 0, 0, 0, 0, 0, 0, 0, 0]) (s := ifS (notF (truO (odE [] 0 (callF [odE [] 0 (rd 14), odE [] 0 (opF lstD [odE [] 0 (callF [odE [] 0 (rd 12)] F_is_swapped), odE [] 0 (callF [odE [] 0 (rd 12), odE [] 0 (rd 4)] F_is_mirrored), odE [] 0 (callF [odE [] 0 (rd 12), odE [] 0 (rd 4)] F_is_crossed)])] (F_ulaw_exact 12))))) (seqS (retS (cF (.bl false))) (nilS)) (nilS))   (vs_if (T := []) (t := notF (truO (odE [] 0 (callF [odE [] 0 (rd 14), odE [] 0 (opF lstD [odE [] 0 (callF [odE [] 0 (rd 12)] F_is_swapped), odE [] 0 (callF [odE [] 0 (rd 12), odE [] 0 (rd 4)] F_is_mirrored), odE [] 0 (callF [odE [] 0 (rd 12), odE [] 0 (rd 4)] F_is_crossed)])] (F_ulaw_exact 12))))) (vt_not (vt_tru (vo_e (T := []) (k := 0) (f := callF [odE [] 0 (rd 14), odE [] 0 (opF lstD [odE [] 0 (callF [odE [] 0 (rd 12)] F_is_swapped), odE [] 0 (callF [odE [] 0 (rd 12), odE [] 0 (rd 4)] F_is_mirrored), odE [] 0 (callF [odE [] 0 (rd 12), odE [] 0 (rd 4)] F_is_crossed)])] (F_ulaw_exact 12)) (ve_fn (k := 0) (fn := (F_ulaw_exact 12)) (C_ulaw_exact.mono (by decide)) hr (va_cons (vo_e (T := []) (k := 0) (f := rd 14) (xv 14)) (va_cons (vo_e (T := []) (k := 0) (f := opF lstD [odE [] 0 (callF [odE [] 0 (rd 12)] F_is_swapped), odE [] 0 (callF [odE [] 0 (rd 12), odE [] 0 (rd 4)] F_is_mirrored), odE [] 0 (callF [odE [] 0 (rd 12), odE [] 0 (rd 4)] F_is_crossed)]) (ve_share (k := 1) (ve_lst (O_lst (by decide)) (va_cons (vo_e (T := []) (k := 0) (f := callF [odE [] 0 (rd 12)] F_is_swapped) (ve_fn (k := 0) (fn := F_is_swapped) (C_is_swapped.mono (by decide)) hr (va_cons (vo_e (T := []) (k := 0) (f := rd 12) (xv 12)) (va_nil) (by decide)))) (va_cons (vo_e (T := []) (k := 0) (f := callF [odE [] 0 (rd 12), odE [] 0 (rd 4)] F_is_mirrored) (ve_fn (k := 0) (fn := F_is_mirrored) (C_is_mirrored.mono (by decide)) hr (va_cons (vo_e (T := []) (k := 0) (f := rd 12) (xv 12)) (va_cons (vo_e (T := []) (k := 0) (f := rd 4) (xv 4)) (va_nil) (by decide)) (by decide)))) (va_cons (vo_e (T := []) (k := 0) (f := callF [odE [] 0 (rd 12), odE [] 0 (rd 4)] F_is_crossed) (ve_fn (k := 0) (fn := F_is_crossed) (C_is_crossed.mono (by decide)) hr (va_cons (vo_e (T := []) (k := 0) (f := rd 12) (xv 12)) (va_cons (vo_e (T := []) (k := 0) (f := rd 4) (xv 4)) (va_nil) (by decide)) (by decide)))) (va_nil) (by decide)) (by decide)) (by decide))))) (va_nil) (by decide)) (by decide))))))  (vss_cons (κ1 := [0, 1, 0, 0, 0, 0, 0, 0, 0, 0, 0, 0, 0, 0, 0, 0, 0]) (s := retS (cF (.bl false)))   (vs_ret (T := []) (f := cF (.bl false)) (ve_bl (k := 0)))   (vss_nil))  (vss_nil))   (vss_nil)))))   (vss_cons (κ1 := [0, 1, 0, 0, 0, 0, 0, 0, 0, 0, 0, 0, 0, 0, 0, 0, 0]) (s := L11)   (vs_set (i := 6) (T := [1]) (j := 0) (f := opF addD [odE [] 0 (cF (.int 1)), odE [1] 0 (callF [odS [0, 1, 0, 0, 0, 0, 0, 0, 0, 0, 0, 0, 0, 0, 0, 0, 0] 1, odE [] 0 (rd 0), odE [] 0 (cF (.int 2))] F_ulaw_draw)]) (by decide) (by decide) nd rfl (by first | exact Or.inl rfl | exact Or.inr rfl) (ve_share (k := 1) (ve_bin op_addA (O_add (by decide) (by decide)) (vo_e (T := []) (k := 0) (f := cF (.int 1)) (ve_int (k := 0))) (vo_e (T := [1]) (k := 0) (f := callF [odS [0, 1, 0, 0, 0, 0, 0, 0, 0, 0, 0, 0, 0, 0, 0, 0, 0] 1, odE [] 0 (rd 0), odE [] 0 (cF (.int 2))] F_ulaw_draw) (ve_fn (k := 0) (fn := F_ulaw_draw) (C_ulaw_draw.mono (by decide)) hr (va_cons (xo 1) (va_cons (vo_e (T := []) (k := 0) (f := rd 0) (xv 0)) (va_cons (vo_e (T := []) (k := 0) (f := cF (.int 2)) (ve_int (k := 0))) (va_nil) (by decide)) (by decide)) (by decide)))) (by decide))))   (vss_cons (κ1 := [0, 1, 0, 0, 0, 0, 0, 0, 0, 0, 0, 0, 0, 0, 0, 0, 0]) (s := L12)   (vs_set (i := 5) (T := []) (j := 0) (f := callF [odE [] 0 (rd 6), odE [] 0 (rd 6), odE [] 0 (rd 6)] F_ulaw_heaps) (by decide) (by decide) nd rfl (by first | exact Or.inl rfl | exact Or.inr rfl) (ve_fn (k := 0) (fn := F_ulaw_heaps) (C_ulaw_heaps.mono (by decide)) hr (va_cons (vo_e (T := []) (k := 0) (f := rd 6) (xv 6)) (va_cons (vo_e (T := []) (k := 0) (f := rd 6) (xv 6)) (va_cons (vo_e (T := []) (k := 0) (f := rd 6) (xv 6)) (va_nil) (by decide)) (by decide)) (by decide))))   (vss_cons (κ1 := [0, 1, 0, 0, 0, 0, 0, 0, 0, 1, 0, 0, 0, 0, 0, 0, 0]) (s := L13)   (vs_setLc (i := 9) (κ := [0, 1, 0, 0, 0, 0, 0, 0, 0, 0, 0, 0, 0, 0, 0, 0, 0]) (T0 := []) (T1 := []) (T2 := []) (k := 0) (Φc := [0, 1, 2, 3, 4, 5, 6, 7, 8, 9, 10, 11, 13, 14, 15, 16]) [] [("rows", 12)] (by decide) (by decide) (by decide) (by decide) (by decide) (by decide) (by decide) (by decide) rfl nd rfl rfl (sw_true rfl rfl rfl (by decide +kernel)) (vi_seq (xv 5)) (blkOk_by (by kernel_rfl)) (fun s0 H0 C0 cl0 fp0 => vg_name (i := 12) (κ' := [0, 1, 0, 0, 0, 0, 0, 0, 0, 0, 0, 0, 0, 0, 0, 0, 0]) (by decide) (by decide) rfl nd rfl (by first | exact Or.inl rfl | exact Or.inr rfl)) (fun s0 H0 C0 cl0 fp0 => vts_one (vt_cmp (op_eqA hu) (O_eq ) (vo_e (T := []) (k := 0) (f := callF [odE [] 0 (rd 12), odE [] 0 (rd 6)] F_ulaw_rolled) (ve_fn (k := 0) (fn := F_ulaw_rolled) (C_ulaw_rolled.mono (by decide)) hr (va_cons (vo_e (T := []) (k := 0) (f := rd 12) (xv 12)) (va_cons (vo_e (T := []) (k := 0) (f := rd 6) (xv 6)) (va_nil) (by decide)) (by decide)))) (xo 12) (by decide))) (fun s0 H0 C0 cl0 fp0 => xv 12))   (vss_frz 9 (by decide) (vss_cons (κ1 := [0, 1, 0, 0, 0, 0, 0, 0, 0, 0, 1, 0, 0, 0, 0, 0, 0]) (s := L14)   (vs_setLc (i := 10) (κ := [0, 1, 0, 0, 0, 0, 0, 0, 0, 0, 0, 0, 0, 0, 0, 0, 0]) (T0 := []) (T1 := []) (T2 := []) (k := 0) (Φc := [0, 1, 2, 3, 4, 5, 6, 7, 8, 9, 10, 11, 13, 14, 15, 16]) [] [("rows", 12)] (by decide) (by decide) (by decide) (by decide) (by decide) (by decide) (by decide) (by decide) rfl nd rfl rfl (sw_true rfl rfl rfl (by decide +kernel)) (vi_seq (xv 9)) (blkOk_by (by kernel_rfl)) (fun s0 H0 C0 cl0 fp0 => vg_name (i := 12) (κ' := [0, 1, 0, 0, 0, 0, 0, 0, 0, 0, 0, 0, 0, 0, 0, 0, 0]) (by decide) (by decide) rfl nd rfl (by first | exact Or.inl rfl | exact Or.inr rfl)) (fun s0 H0 C0 cl0 fp0 => vts_one (vt_cmp (op_eqA hu) (O_eq ) (vo_e (T := []) (k := 0) (f := callF [odE [] 0 (rd 12)] F_ulaw_swapped) (ve_fn (k := 0) (fn := F_ulaw_swapped) (C_ulaw_swapped.mono (by decide)) hr (va_cons (vo_e (T := []) (k := 0) (f := rd 12) (xv 12)) (va_nil) (by decide)))) (xo 12) (by decide))) (fun s0 H0 C0 cl0 fp0 => xv 12))   (vss_frz 10 (by decide) (vss_cons (κ1 := [0, 1, 0, 0, 0, 0, 0, 0, 0, 0, 0, 0, 0, 0, 0, 0, 0]) (s := L15)   (vs_if (T := []) (t := notF (truO (odE [] 0 (callF [odE [] 0 (opF lstD [odE [] 0 (opF lenD [odS [0, 1, 0, 0, 0, 0, 0, 0, 0, 0, 0, 0, 0, 0, 0, 0, 0] 9]), odE [] 0 (opF lenD [odS [0, 1, 0, 0, 0, 0, 0, 0, 0, 0, 0, 0, 0, 0, 0, 0, 0] 10])]), odE [] 0 (opF lstD [odE [] 0 (callF [odE [] 0 (rd 6)] F_count_rolled), odE [] 0 (callF [odE [] 0 (rd 6)] F_count_whole)])] (F_ulaw_exact 12))))) (vt_not (vt_tru (vo_e (T := []) (k := 0) (f := callF [odE [] 0 (opF lstD [odE [] 0 (opF lenD [odS [0, 1, 0, 0, 0, 0, 0, 0, 0, 0, 0, 0, 0, 0, 0, 0, 0] 9]), odE [] 0 (opF lenD [odS [0, 1, 0, 0, 0, 0, 0, 0, 0, 0, 0, 0, 0, 0, 0, 0, 0] 10])]), odE [] 0 (opF lstD [odE [] 0 (callF [odE [] 0 (rd 6)] F_count_rolled), odE [] 0 (callF [odE [] 0 (rd 6)] F_count_whole)])] (F_ulaw_exact 12)) (ve_fn (k := 0) (fn := (F_ulaw_exact 12)) (C_ulaw_exact.mono (by decide)) hr (va_cons (vo_e (T := []) (k := 0) (f := opF lstD [odE [] 0 (opF lenD [odS [0, 1, 0, 0, 0, 0, 0, 0, 0, 0, 0, 0, 0, 0, 0, 0, 0] 9]), odE [] 0 (opF lenD [odS [0, 1, 0, 0, 0, 0, 0, 0, 0, 0, 0, 0, 0, 0, 0, 0, 0] 10])]) (ve_share (k := 1) (ve_lst (O_lst (by decide)) (va_cons (vo_e (T := []) (k := 0) (f := opF lenD [odS [0, 1, 0, 0, 0, 0, 0, 0, 0, 0, 0, 0, 0, 0, 0, 0, 0] 9]) (ve_callB call_len (O_len (k := 0)) (by rfl) (by exact bn "len" (by decide)) vb_len (va_cons (xo 9) (va_nil) (by decide)))) (va_cons (vo_e (T := []) (k := 0) (f := opF lenD [odS [0, 1, 0, 0, 0, 0, 0, 0, 0, 0, 0, 0, 0, 0, 0, 0, 0] 10]) (ve_callB call_len (O_len (k := 0)) (by rfl) (by exact bn "len" (by decide)) vb_len (va_cons (xo 10) (va_nil) (by decide)))) (va_nil) (by decide)) (by decide))))) (va_cons (vo_e (T := []) (k := 0) (f := opF lstD [odE [] 0 (callF [odE [] 0 (rd 6)] F_count_rolled), odE [] 0 (callF [odE [] 0 (rd 6)] F_count_whole)]) (ve_share (k := 1) (ve_lst (O_lst (by decide)) (va_cons (vo_e (T := []) (k := 0) (f := callF [odE [] 0 (rd 6)] F_count_rolled) (ve_fn (k := 0) (fn := F_count_rolled) (C_count_rolled.mono (by decide)) hr (va_cons (vo_e (T := []) (k := 0) (f := rd 6) (xv 6)) (va_nil) (by decide)))) (va_cons (vo_e (T := []) (k := 0) (f := callF [odE [] 0 (rd 6)] F_count_whole) (ve_fn (k := 0) (fn := F_count_whole) (C_count_whole.mono (by decide)) hr (va_cons (vo_e (T := []) (k := 0) (f := rd 6) (xv 6)) (va_nil) (by decide)))) (va_nil) (by decide)) (by decide))))) (va_nil) (by decide)) (by decide))))))  (vss_cons (κ1 := [0, 1, 0, 0, 0, 0, 0, 0, 0, 0, 0, 0, 0, 0, 0, 0, 0]) (s := retS (cF (.bl false)))   (vs_ret (T := []) (f := cF (.bl false)) (ve_bl (k := 0)))   (vss_nil))  (vss_nil))   (vss_cons (κ1 := [0, 1, 0, 0, 0, 0, 0, 0, 0, 0, 0, 1, 0, 0, 0, 0, 0]) (s := L16)   (vs_set (i := 11) (T := []) (j := 1) (f := opF lstD []) (by decide) (by decide) nd rfl (by first | exact Or.inl rfl | exact Or.inr rfl) (ve_lst (O_lst (by decide)) (va_nil)))   (vss_cons (κ1 := [0, 1, 0, 0, 0, 0, 0, 0, 0, 0, 0, 1, 0, 0, 0, 0, 0]) (s := L17)   (vs_for (T := []) (f := seqSrc (rd 5)) (m := tgN 12) PassesOwn.never rfl (vi_seq (xv 5)) (vg_name (i := 12) (κ' := [0, 1, 0, 0, 0, 0, 0, 0, 0, 0, 0, 1, 0, 0, 0, 0, 0]) (by decide) (by decide) rfl nd rfl (by first | exact Or.inl rfl | exact Or.inr rfl))  (vss_cons (κ1 := [0, 1, 0, 0, 0, 0, 0, 0, 0, 0, 0, 1, 0, 0, 0, 0, 0]) (s := setS 15 (callF [odE [] 0 (rd 12), odE [] 0 (rd 6)] F_ulaw_lot))   (vs_set (i := 15) (T := []) (j := 0) (f := callF [odE [] 0 (rd 12), odE [] 0 (rd 6)] F_ulaw_lot) (by decide) (by decide) nd rfl (by first | exact Or.inl rfl | exact Or.inr rfl) (ve_fn (k := 0) (fn := F_ulaw_lot) (C_ulaw_lot.mono (by decide)) hr (va_cons (vo_e (T := []) (k := 0) (f := rd 12) (xv 12)) (va_cons (vo_e (T := []) (k := 0) (f := rd 6) (xv 6)) (va_nil) (by decide)) (by decide))))   (vss_cons (κ1 := [0, 1, 0, 0, 0, 0, 0, 0, 0, 0, 0, 1, 0, 0, 0, 0, 0]) (s := ifS (orF (notF (truO (odE [] 0 (callF [odE [] 0 (rd 15), odE [] 0 (callF [odE [] 0 (rd 12), odE [] 0 (rd 6)] F_lots_moved)] (F_ulaw_exact 12))))) (notF (truO (odE [] 0 (callF [odE [] 0 (opF lstD [odE [] 0 (opF (inD false) [odS [0, 1, 0, 0, 0, 0, 0, 0, 0, 0, 0, 1, 0, 0, 0, 0, 0] 12, odS [0, 1, 0, 0, 0, 0, 0, 0, 0, 0, 0, 1, 0, 0, 0, 0, 0] 9]), odE [] 0 (opF (inD false) [odS [0, 1, 0, 0, 0, 0, 0, 0, 0, 0, 0, 1, 0, 0, 0, 0, 0] 12, odS [0, 1, 0, 0, 0, 0, 0, 0, 0, 0, 0, 1, 0, 0, 0, 0, 0] 10])]), odE [] 0 (opF lstD [odE [] 0 (callF [odE [] 0 (rd 12), odE [] 0 (rd 6)] F_is_rolled), odE [] 0 (callF [odE [] 0 (rd 12), odE [] 0 (rd 6)] F_is_whole)])] (F_ulaw_exact 12)))))) (seqS (retS (cF (.bl false))) (nilS)) (nilS))   (vs_if (T := []) (t := orF (notF (truO (odE [] 0 (callF [odE [] 0 (rd 15), odE [] 0 (callF [odE [] 0 (rd 12), odE [] 0 (rd 6)] F_lots_moved)] (F_ulaw_exact 12))))) (notF (truO (odE [] 0 (callF [odE [] 0 (opF lstD [odE [] 0 (opF (inD false) [odS [0, 1, 0, 0, 0, 0, 0, 0, 0, 0, 0, 1, 0, 0, 0, 0, 0] 12, odS [0, 1, 0, 0, 0, 0, 0, 0, 0, 0, 0, 1, 0, 0, 0, 0, 0] 9]), odE [] 0 (opF (inD false) [odS [0, 1, 0, 0, 0, 0, 0, 0, 0, 0, 0, 1, 0, 0, 0, 0, 0] 12, odS [0, 1, 0, 0, 0, 0, 0, 0, 0, 0, 0, 1, 0, 0, 0, 0, 0] 10])]), odE [] 0 (opF lstD [odE [] 0 (callF [odE [] 0 (rd 12), odE [] 0 (rd 6)] F_is_rolled), odE [] 0 (callF [odE [] 0 (rd 12), odE [] 0 (rd 6)] F_is_whole)])] (F_ulaw_exact 12)))))) ((vw_or (vt_not (vt_tru (vo_e (T := []) (k := 0) (f := callF [odE [] 0 (rd 15), odE [] 0 (callF [odE [] 0 (rd 12), odE [] 0 (rd 6)] F_lots_moved)] (F_ulaw_exact 12)) (ve_fn (k := 0) (fn := (F_ulaw_exact 12)) (C_ulaw_exact.mono (by decide)) hr (va_cons (vo_e (T := []) (k := 0) (f := rd 15) (xv 15)) (va_cons (vo_e (T := []) (k := 0) (f := callF [odE [] 0 (rd 12), odE [] 0 (rd 6)] F_lots_moved) (ve_fn (k := 0) (fn := F_lots_moved) (C_lots_moved.mono (by decide)) hr (va_cons (vo_e (T := []) (k := 0) (f := rd 12) (xv 12)) (va_cons (vo_e (T := []) (k := 0) (f := rd 6) (xv 6)) (va_nil) (by decide)) (by decide)))) (va_nil) (by decide)) (by decide)))))) (vw_or1 (vt_not (vt_tru (vo_e (T := []) (k := 0) (f := callF [odE [] 0 (opF lstD [odE [] 0 (opF (inD false) [odS [0, 1, 0, 0, 0, 0, 0, 0, 0, 0, 0, 1, 0, 0, 0, 0, 0] 12, odS [0, 1, 0, 0, 0, 0, 0, 0, 0, 0, 0, 1, 0, 0, 0, 0, 0] 9]), odE [] 0 (opF (inD false) [odS [0, 1, 0, 0, 0, 0, 0, 0, 0, 0, 0, 1, 0, 0, 0, 0, 0] 12, odS [0, 1, 0, 0, 0, 0, 0, 0, 0, 0, 0, 1, 0, 0, 0, 0, 0] 10])]), odE [] 0 (opF lstD [odE [] 0 (callF [odE [] 0 (rd 12), odE [] 0 (rd 6)] F_is_rolled), odE [] 0 (callF [odE [] 0 (rd 12), odE [] 0 (rd 6)] F_is_whole)])] (F_ulaw_exact 12)) (ve_fn (k := 0) (fn := (F_ulaw_exact 12)) (C_ulaw_exact.mono (by decide)) hr (va_cons (vo_e (T := []) (k := 0) (f := opF lstD [odE [] 0 (opF (inD false) [odS [0, 1, 0, 0, 0, 0, 0, 0, 0, 0, 0, 1, 0, 0, 0, 0, 0] 12, odS [0, 1, 0, 0, 0, 0, 0, 0, 0, 0, 0, 1, 0, 0, 0, 0, 0] 9]), odE [] 0 (opF (inD false) [odS [0, 1, 0, 0, 0, 0, 0, 0, 0, 0, 0, 1, 0, 0, 0, 0, 0] 12, odS [0, 1, 0, 0, 0, 0, 0, 0, 0, 0, 0, 1, 0, 0, 0, 0, 0] 10])]) (ve_share (k := 1) (ve_lst (O_lst (by decide)) (va_cons (vo_e (T := []) (k := 0) (f := opF (inD false) [odS [0, 1, 0, 0, 0, 0, 0, 0, 0, 0, 0, 1, 0, 0, 0, 0, 0] 12, odS [0, 1, 0, 0, 0, 0, 0, 0, 0, 0, 0, 1, 0, 0, 0, 0, 0] 9]) (ve_cmp (op_inA hu) (O_in (k := 0)) (xo 12) (xo 9) (by decide))) (va_cons (vo_e (T := []) (k := 0) (f := opF (inD false) [odS [0, 1, 0, 0, 0, 0, 0, 0, 0, 0, 0, 1, 0, 0, 0, 0, 0] 12, odS [0, 1, 0, 0, 0, 0, 0, 0, 0, 0, 0, 1, 0, 0, 0, 0, 0] 10]) (ve_cmp (op_inA hu) (O_in (k := 0)) (xo 12) (xo 10) (by decide))) (va_nil) (by decide)) (by decide))))) (va_cons (vo_e (T := []) (k := 0) (f := opF lstD [odE [] 0 (callF [odE [] 0 (rd 12), odE [] 0 (rd 6)] F_is_rolled), odE [] 0 (callF [odE [] 0 (rd 12), odE [] 0 (rd 6)] F_is_whole)]) (ve_share (k := 1) (ve_lst (O_lst (by decide)) (va_cons (vo_e (T := []) (k := 0) (f := callF [odE [] 0 (rd 12), odE [] 0 (rd 6)] F_is_rolled) (ve_fn (k := 0) (fn := F_is_rolled) (C_is_rolled.mono (by decide)) hr (va_cons (vo_e (T := []) (k := 0) (f := rd 12) (xv 12)) (va_cons (vo_e (T := []) (k := 0) (f := rd 6) (xv 6)) (va_nil) (by decide)) (by decide)))) (va_cons (vo_e (T := []) (k := 0) (f := callF [odE [] 0 (rd 12), odE [] 0 (rd 6)] F_is_whole) (ve_fn (k := 0) (fn := F_is_whole) (C_is_whole.mono (by decide)) hr (va_cons (vo_e (T := []) (k := 0) (f := rd 12) (xv 12)) (va_cons (vo_e (T := []) (k := 0) (f := rd 6) (xv 6)) (va_nil) (by decide)) (by decide)))) (va_nil) (by decide)) (by decide))))) (va_nil) (by decide)) (by decide)))))))).pt)  (vss_cons (κ1 := [0, 1, 0, 0, 0, 0, 0, 0, 0, 0, 0, 1, 0, 0, 0, 0, 0]) (s := retS (cF (.bl false)))   (vs_ret (T := []) (f := cF (.bl false)) (ve_bl (k := 0)))   (vss_nil))  (vss_nil))   (vss_cons (κ1 := [0, 1, 0, 0, 0, 0, 0, 0, 0, 0, 0, 1, 0, 0, 0, 0, 0]) (s := ifS (tstF (opF (inD true) [odS [0, 1, 0, 0, 0, 0, 0, 0, 0, 0, 0, 1, 0, 0, 0, 0, 0] 15, odS [0, 1, 0, 0, 0, 0, 0, 0, 0, 0, 0, 1, 0, 0, 0, 0, 0] 11])) (seqS (dropS (appF 11 (rd 15))) (nilS)) (nilS))   (vs_if (T := []) (t := tstF (opF (inD true) [odS [0, 1, 0, 0, 0, 0, 0, 0, 0, 0, 0, 1, 0, 0, 0, 0, 0] 15, odS [0, 1, 0, 0, 0, 0, 0, 0, 0, 0, 0, 1, 0, 0, 0, 0, 0] 11])) (vt_cmp (op_notInA hu) (O_in ) (xo 15) (xo 11) (by decide))  (vss_cons (κ1 := [0, 1, 0, 0, 0, 0, 0, 0, 0, 0, 0, 1, 0, 0, 0, 0, 0]) (s := dropS (appF 11 (rd 15)))   (vs_expr (T := [11]) (j := 0) (f := appF 11 (rd 15)) (ve_append (i := 11) (k := 0) (by decide) (by decide) rfl (by first | exact Or.inl rfl | exact Or.inr (Or.inl rfl) | exact Or.inr (Or.inr rfl)) (xv 15)))   (vss_nil))  (vss_nil))   (vss_nil)))))   (vss_cons (κ1 := [0, 1, 0, 0, 0, 0, 0, 0, 0, 0, 0, 1, 0, 0, 0, 0, 0]) (s := L18)   (vs_if (T := []) (t := notF (truO (odE [] 0 (callF [odE [] 0 (opF lenD [odS [0, 1, 0, 0, 0, 0, 0, 0, 0, 0, 0, 1, 0, 0, 0, 0, 0] 11]), odE [] 0 (callF [odE [] 0 (rd 6)] F_count_lots)] (F_ulaw_exact 12))))) (vt_not (vt_tru (vo_e (T := []) (k := 0) (f := callF [odE [] 0 (opF lenD [odS [0, 1, 0, 0, 0, 0, 0, 0, 0, 0, 0, 1, 0, 0, 0, 0, 0] 11]), odE [] 0 (callF [odE [] 0 (rd 6)] F_count_lots)] (F_ulaw_exact 12)) (ve_fn (k := 0) (fn := (F_ulaw_exact 12)) (C_ulaw_exact.mono (by decide)) hr (va_cons (vo_e (T := []) (k := 0) (f := opF lenD [odS [0, 1, 0, 0, 0, 0, 0, 0, 0, 0, 0, 1, 0, 0, 0, 0, 0] 11]) (ve_callB call_len (O_len (k := 0)) (by rfl) (by exact bn "len" (by decide)) vb_len (va_cons (xo 11) (va_nil) (by decide)))) (va_cons (vo_e (T := []) (k := 0) (f := callF [odE [] 0 (rd 6)] F_count_lots) (ve_fn (k := 0) (fn := F_count_lots) (C_count_lots.mono (by decide)) hr (va_cons (vo_e (T := []) (k := 0) (f := rd 6) (xv 6)) (va_nil) (by decide)))) (va_nil) (by decide)) (by decide))))))  (vss_cons (κ1 := [0, 1, 0, 0, 0, 0, 0, 0, 0, 0, 0, 1, 0, 0, 0, 0, 0]) (s := retS (cF (.bl false)))   (vs_ret (T := []) (f := cF (.bl false)) (ve_bl (k := 0)))   (vss_nil))  (vss_nil))   (vss_cons (κ1 := [0, 1, 0, 0, 0, 0, 0, 0, 0, 0, 0, 1, 0, 0, 0, 0, 0]) (s := L19)   (vs_set (i := 13) (T := []) (j := 0) (f := opF addD [odE [] 1 (lcF (clF (rng2 [odE [] 0 (cF (.int 1)), odE [] 0 (cF (.int 6))]) [16] (tgN 16) (yesF) (oneF (callF [odE [] 0 (rd 16)] F_count_rolled)))), odE [] 1 (lcF (clF (rng2 [odE [] 0 (cF (.int 1)), odE [] 0 (cF (.int 6))]) [16] (tgN 16) (yesF) (oneF (callF [odE [] 0 (rd 16)] F_count_whole))))]) (by decide) (by decide) nd rfl (by first | exact Or.inl rfl | exact Or.inr rfl) (ve_share (k := 1) (ve_bin op_addA (O_add (by decide) (by decide)) (vo_e (T := []) (k := 1) (f := lcF (clF (rng2 [odE [] 0 (cF (.int 1)), odE [] 0 (cF (.int 6))]) [16] (tgN 16) (yesF) (oneF (callF [odE [] 0 (rd 16)] F_count_rolled)))) (ve_lc (κ := [0, 1, 0, 0, 0, 0, 0, 0, 0, 0, 0, 1, 0, 0, 0, 0, 0]) (T0 := []) (T1 := []) (T2 := []) (k := 0) (Φc := [0, 1, 2, 3, 4, 5, 6, 7, 8, 9, 10, 11, 12, 13, 14, 15]) [] [("m", 16)] (by decide) (by decide) (by decide) (by decide) (by decide) (by decide) rfl nd (vi_rng2 (by rfl) (by exact bn "range" (by decide)) (va_cons (vo_e (T := []) (k := 0) (f := cF (.int 1)) (ve_int (k := 0))) (va_cons (vo_e (T := []) (k := 0) (f := cF (.int 6)) (ve_int (k := 0))) (va_nil) (by decide)) (by decide))) (blkOk_by (by kernel_rfl)) (fun s0 H0 C0 cl0 fp0 => vg_name (i := 16) (κ' := [0, 1, 0, 0, 0, 0, 0, 0, 0, 0, 0, 1, 0, 0, 0, 0, 0]) (by decide) (by decide) rfl nd rfl (by first | exact Or.inl rfl | exact Or.inr rfl)) (fun s0 H0 C0 cl0 fp0 => vts_nil) (fun s0 H0 C0 cl0 fp0 => ve_fn (k := 0) (fn := F_count_rolled) (C_count_rolled.mono (by decide)) hr (va_cons (vo_e (T := []) (k := 0) (f := rd 16) (xv 16)) (va_nil) (by decide))))) (vo_e (T := []) (k := 1) (f := lcF (clF (rng2 [odE [] 0 (cF (.int 1)), odE [] 0 (cF (.int 6))]) [16] (tgN 16) (yesF) (oneF (callF [odE [] 0 (rd 16)] F_count_whole)))) (ve_lc (κ := [0, 1, 0, 0, 0, 0, 0, 0, 0, 0, 0, 1, 0, 0, 0, 0, 0]) (T0 := []) (T1 := []) (T2 := []) (k := 0) (Φc := [0, 1, 2, 3, 4, 5, 6, 7, 8, 9, 10, 11, 12, 13, 14, 15]) [] [("m", 16)] (by decide) (by decide) (by decide) (by decide) (by decide) (by decide) rfl nd (vi_rng2 (by rfl) (by exact bn "range" (by decide)) (va_cons (vo_e (T := []) (k := 0) (f := cF (.int 1)) (ve_int (k := 0))) (va_cons (vo_e (T := []) (k := 0) (f := cF (.int 6)) (ve_int (k := 0))) (va_nil) (by decide)) (by decide))) (blkOk_by (by kernel_rfl)) (fun s0 H0 C0 cl0 fp0 => vg_name (i := 16) (κ' := [0, 1, 0, 0, 0, 0, 0, 0, 0, 0, 0, 1, 0, 0, 0, 0, 0]) (by decide) (by decide) rfl nd rfl (by first | exact Or.inl rfl | exact Or.inr rfl)) (fun s0 H0 C0 cl0 fp0 => vts_nil) (fun s0 H0 C0 cl0 fp0 => ve_fn (k := 0) (fn := F_count_whole) (C_count_whole.mono (by decide)) hr (va_cons (vo_e (T := []) (k := 0) (f := rd 16) (xv 16)) (va_nil) (by decide))))) (by decide))))   (vss_cons (κ1 := [0, 1, 0, 0, 0, 0, 0, 0, 0, 0, 0, 1, 0, 0, 0, 0, 0]) (s := L20)   (vs_if (T := []) (t := tstF (opF neD [odS [0, 1, 0, 0, 0, 0, 0, 0, 0, 0, 0, 1, 0, 0, 0, 0, 0] 13, odE [] 1 (opF lstD [odE [] 0 (cF (.int 2)), odE [] 0 (cF (.int 5)), odE [] 0 (cF (.int 20)), odE [] 0 (cF (.int 132)), odE [] 0 (cF (.int 1452)), odE [] 0 (cF (.int 2)), odE [] 0 (cF (.int 5)), odE [] 0 (cF (.int 16)), odE [] 0 (cF (.int 66)), odE [] 0 (cF (.int 352))])])) (vt_cmp (op_neA hu) (O_ne ) (xo 13) (vo_e (T := []) (k := 1) (f := opF lstD [odE [] 0 (cF (.int 2)), odE [] 0 (cF (.int 5)), odE [] 0 (cF (.int 20)), odE [] 0 (cF (.int 132)), odE [] 0 (cF (.int 1452)), odE [] 0 (cF (.int 2)), odE [] 0 (cF (.int 5)), odE [] 0 (cF (.int 16)), odE [] 0 (cF (.int 66)), odE [] 0 (cF (.int 352))]) (ve_lst (O_lst (by decide)) (va_cons (vo_e (T := []) (k := 0) (f := cF (.int 2)) (ve_int (k := 0))) (va_cons (vo_e (T := []) (k := 0) (f := cF (.int 5)) (ve_int (k := 0))) (va_cons (vo_e (T := []) (k := 0) (f := cF (.int 20)) (ve_int (k := 0))) (va_cons (vo_e (T := []) (k := 0) (f := cF (.int 132)) (ve_int (k := 0))) (va_cons (vo_e (T := []) (k := 0) (f := cF (.int 1452)) (ve_int (k := 0))) (va_cons (vo_e (T := []) (k := 0) (f := cF (.int 2)) (ve_int (k := 0))) (va_cons (vo_e (T := []) (k := 0) (f := cF (.int 5)) (ve_int (k := 0))) (va_cons (vo_e (T := []) (k := 0) (f := cF (.int 16)) (ve_int (k := 0))) (va_cons (vo_e (T := []) (k := 0) (f := cF (.int 66)) (ve_int (k := 0))) (va_cons (vo_e (T := []) (k := 0) (f := cF (.int 352)) (ve_int (k := 0))) (va_nil) (by decide)) (by decide)) (by decide)) (by decide)) (by decide)) (by decide)) (by decide)) (by decide)) (by decide)) (by decide)))) (by decide))  (vss_cons (κ1 := [0, 1, 0, 0, 0, 0, 0, 0, 0, 0, 0, 1, 0, 0, 0, 0, 0]) (s := retS (cF (.bl false)))   (vs_ret (T := []) (f := cF (.bl false)) (ve_bl (k := 0)))   (vss_nil))  (vss_nil))   (vss_cons (κ1 := [0, 1, 0, 0, 0, 0, 0, 0, 0, 0, 0, 1, 0, 0, 0, 0, 0]) (s := L21)   (vs_set (i := 12) (T := []) (j := 0) (f := opF tupD [odE [] 0 (opF tupD [odE [] 0 (cF (.int 2)), odE [] 0 (cF (.int 1))]), odE [] 0 (opF tupD [odE [] 0 (cF (.int 1)), odE [] 0 (cF (.int 0))]), odE [] 0 (opF tupD [odE [] 0 (cF (.int 0)), odE [] 0 (cF (.int 0))])]) (by decide) (by decide) nd rfl (by first | exact Or.inl rfl | exact Or.inr rfl) (ve_tup (O_tup (k := 0) (by decide)) (va_cons (vo_e (T := []) (k := 0) (f := opF tupD [odE [] 0 (cF (.int 2)), odE [] 0 (cF (.int 1))]) (ve_tup (O_tup (k := 0) (by decide)) (va_cons (vo_e (T := []) (k := 0) (f := cF (.int 2)) (ve_int (k := 0))) (va_cons (vo_e (T := []) (k := 0) (f := cF (.int 1)) (ve_int (k := 0))) (va_nil) (by decide)) (by decide)))) (va_cons (vo_e (T := []) (k := 0) (f := opF tupD [odE [] 0 (cF (.int 1)), odE [] 0 (cF (.int 0))]) (ve_tup (O_tup (k := 0) (by decide)) (va_cons (vo_e (T := []) (k := 0) (f := cF (.int 1)) (ve_int (k := 0))) (va_cons (vo_e (T := []) (k := 0) (f := cF (.int 0)) (ve_int (k := 0))) (va_nil) (by decide)) (by decide)))) (va_cons (vo_e (T := []) (k := 0) (f := opF tupD [odE [] 0 (cF (.int 0)), odE [] 0 (cF (.int 0))]) (ve_tup (O_tup (k := 0) (by decide)) (va_cons (vo_e (T := []) (k := 0) (f := cF (.int 0)) (ve_int (k := 0))) (va_cons (vo_e (T := []) (k := 0) (f := cF (.int 0)) (ve_int (k := 0))) (va_nil) (by decide)) (by decide)))) (va_nil) (by decide)) (by decide)) (by decide))))   (vss_cons (κ1 := [0, 1, 0, 0, 0, 0, 0, 0, 0, 0, 0, 1, 0, 0, 0, 0, 0]) (s := L22)   (vs_if (T := []) (t := orF (truO (odE [] 0 (callF [odE [] 0 (rd 12)] F_is_swapped))) (orF (truO (odE [] 0 (callF [odE [] 0 (rd 12), odE [] 0 (cF (.int 2))] F_is_rolled))) (truO (odE [] 0 (callF [odE [] 0 (rd 12), odE [] 0 (cF (.int 2))] F_is_crossed))))) ((vw_or (vt_tru (vo_e (T := []) (k := 0) (f := callF [odE [] 0 (rd 12)] F_is_swapped) (ve_fn (k := 0) (fn := F_is_swapped) (C_is_swapped.mono (by decide)) hr (va_cons (vo_e (T := []) (k := 0) (f := rd 12) (xv 12)) (va_nil) (by decide))))) (vw_or (vt_tru (vo_e (T := []) (k := 0) (f := callF [odE [] 0 (rd 12), odE [] 0 (cF (.int 2))] F_is_rolled) (ve_fn (k := 0) (fn := F_is_rolled) (C_is_rolled.mono (by decide)) hr (va_cons (vo_e (T := []) (k := 0) (f := rd 12) (xv 12)) (va_cons (vo_e (T := []) (k := 0) (f := cF (.int 2)) (ve_int (k := 0))) (va_nil) (by decide)) (by decide))))) (vw_or1 (vt_tru (vo_e (T := []) (k := 0) (f := callF [odE [] 0 (rd 12), odE [] 0 (cF (.int 2))] F_is_crossed) (ve_fn (k := 0) (fn := F_is_crossed) (C_is_crossed.mono (by decide)) hr (va_cons (vo_e (T := []) (k := 0) (f := rd 12) (xv 12)) (va_cons (vo_e (T := []) (k := 0) (f := cF (.int 2)) (ve_int (k := 0))) (va_nil) (by decide)) (by decide)))))))).pt)  (vss_cons (κ1 := [0, 1, 0, 0, 0, 0, 0, 0, 0, 0, 0, 1, 0, 0, 0, 0, 0]) (s := retS (cF (.bl false)))   (vs_ret (T := []) (f := cF (.bl false)) (ve_bl (k := 0)))   (vss_nil))  (vss_nil))   (vss_cons (κ1 := [0, 1, 0, 0, 0, 0, 0, 0, 0, 0, 0, 1, 0, 0, 0, 0, 0]) (s := L23)   (vs_set (i := 2) (T := [1]) (j := 0) (f := opF addD [odE [] 0 (cF (.int 1)), odE [1] 0 (callF [odS [0, 1, 0, 0, 0, 0, 0, 0, 0, 0, 0, 1, 0, 0, 0, 0, 0] 1, odE [] 0 (rd 0), odE [] 0 (cF (.int 8))] F_ulaw_draw)]) (by decide) (by decide) nd rfl (by first | exact Or.inl rfl | exact Or.inr rfl) (ve_share (k := 1) (ve_bin op_addA (O_add (by decide) (by decide)) (vo_e (T := []) (k := 0) (f := cF (.int 1)) (ve_int (k := 0))) (vo_e (T := [1]) (k := 0) (f := callF [odS [0, 1, 0, 0, 0, 0, 0, 0, 0, 0, 0, 1, 0, 0, 0, 0, 0] 1, odE [] 0 (rd 0), odE [] 0 (cF (.int 8))] F_ulaw_draw) (ve_fn (k := 0) (fn := F_ulaw_draw) (C_ulaw_draw.mono (by decide)) hr (va_cons (xo 1) (va_cons (vo_e (T := []) (k := 0) (f := rd 0) (xv 0)) (va_cons (vo_e (T := []) (k := 0) (f := cF (.int 8)) (ve_int (k := 0))) (va_nil) (by decide)) (by decide)) (by decide)))) (by decide))))   (vss_cons (κ1 := [0, 1, 0, 0, 0, 0, 0, 0, 0, 0, 0, 1, 0, 0, 0, 0, 0]) (s := L24)   (vs_ret (T := []) (f := andV (opF eqD [odE [] 0 (callF [odE [] 0 (opF mulD [odE [] 0 (cF (.int 2)), odS [0, 1, 0, 0, 0, 0, 0, 0, 0, 0, 0, 1, 0, 0, 0, 0, 0] 2]), odE [] 0 (cF (.int 2)), odE [] 0 (cF (.int 2))] F_count_mirrored), odE [] 0 (opF mulD [odE [] 0 (callF [odE [] 0 (rd 2), odE [] 0 (cF (.int 1)), odE [] 0 (cF (.int 1))] F_count_heaps), odE [] 0 (callF [odE [] 0 (rd 2), odE [] 0 (cF (.int 1)), odE [] 0 (cF (.int 1))] F_count_heaps)])]) (opF eqD [odE [] 0 (callF [odE [] 0 (cF (.int 3)), odE [] 0 (cF (.int 5)), odE [] 0 (cF (.int 7))] F_count_mirrored), odE [] 0 (cF (.int 0))])) (ve_and (k := 0) (ve_cmp (op_eqA hu) (O_eq (k := 0)) (vo_e (T := []) (k := 0) (f := callF [odE [] 0 (opF mulD [odE [] 0 (cF (.int 2)), odS [0, 1, 0, 0, 0, 0, 0, 0, 0, 0, 0, 1, 0, 0, 0, 0, 0] 2]), odE [] 0 (cF (.int 2)), odE [] 0 (cF (.int 2))] F_count_mirrored) (ve_fn (k := 0) (fn := F_count_mirrored) (C_count_mirrored.mono (by decide)) hr (va_cons (vo_e (T := []) (k := 0) (f := opF mulD [odE [] 0 (cF (.int 2)), odS [0, 1, 0, 0, 0, 0, 0, 0, 0, 0, 0, 1, 0, 0, 0, 0, 0] 2]) (ve_bin op_mulA (O_mul (k := 0)) (vo_e (T := []) (k := 0) (f := cF (.int 2)) (ve_int (k := 0))) (xo 2) (by decide))) (va_cons (vo_e (T := []) (k := 0) (f := cF (.int 2)) (ve_int (k := 0))) (va_cons (vo_e (T := []) (k := 0) (f := cF (.int 2)) (ve_int (k := 0))) (va_nil) (by decide)) (by decide)) (by decide)))) (vo_e (T := []) (k := 0) (f := opF mulD [odE [] 0 (callF [odE [] 0 (rd 2), odE [] 0 (cF (.int 1)), odE [] 0 (cF (.int 1))] F_count_heaps), odE [] 0 (callF [odE [] 0 (rd 2), odE [] 0 (cF (.int 1)), odE [] 0 (cF (.int 1))] F_count_heaps)]) (ve_bin op_mulA (O_mul (k := 0)) (vo_e (T := []) (k := 0) (f := callF [odE [] 0 (rd 2), odE [] 0 (cF (.int 1)), odE [] 0 (cF (.int 1))] F_count_heaps) (ve_fn (k := 0) (fn := F_count_heaps) (C_count_heaps.mono (by decide)) hr (va_cons (vo_e (T := []) (k := 0) (f := rd 2) (xv 2)) (va_cons (vo_e (T := []) (k := 0) (f := cF (.int 1)) (ve_int (k := 0))) (va_cons (vo_e (T := []) (k := 0) (f := cF (.int 1)) (ve_int (k := 0))) (va_nil) (by decide)) (by decide)) (by decide)))) (vo_e (T := []) (k := 0) (f := callF [odE [] 0 (rd 2), odE [] 0 (cF (.int 1)), odE [] 0 (cF (.int 1))] F_count_heaps) (ve_fn (k := 0) (fn := F_count_heaps) (C_count_heaps.mono (by decide)) hr (va_cons (vo_e (T := []) (k := 0) (f := rd 2) (xv 2)) (va_cons (vo_e (T := []) (k := 0) (f := cF (.int 1)) (ve_int (k := 0))) (va_cons (vo_e (T := []) (k := 0) (f := cF (.int 1)) (ve_int (k := 0))) (va_nil) (by decide)) (by decide)) (by decide)))) (by decide))) (by decide)) (ve_one (ve_cmp (op_eqA hu) (O_eq (k := 0)) (vo_e (T := []) (k := 0) (f := callF [odE [] 0 (cF (.int 3)), odE [] 0 (cF (.int 5)), odE [] 0 (cF (.int 7))] F_count_mirrored) (ve_fn (k := 0) (fn := F_count_mirrored) (C_count_mirrored.mono (by decide)) hr (va_cons (vo_e (T := []) (k := 0) (f := cF (.int 3)) (ve_int (k := 0))) (va_cons (vo_e (T := []) (k := 0) (f := cF (.int 5)) (ve_int (k := 0))) (va_cons (vo_e (T := []) (k := 0) (f := cF (.int 7)) (ve_int (k := 0))) (va_nil) (by decide)) (by decide)) (by decide)))) (vo_e (T := []) (k := 0) (f := cF (.int 0)) (ve_int (k := 0))) (by decide)))))   (vss_nil))))))))))))))))))))))))))))
  exact h

theorem atI_in {ns : List Int} {i : Int} (h0 : 0 ≤ i) (h1 : i < ns.length) : ∃ v, atI (ns.map D.int) i = some (.int v) := by
  have h2 : i.toNat < ns.length := by omega
  refine ⟨ns[i.toNat], ?_⟩
  simp [L2.atI, L2.ixN, h0, h1, h2]
theorem refill_ok (ns : List Int) (k : Int) : ∃ v, F_ulaw_refill [.lst (ns.map .int), .int k] = some (.int v, [.lst (ns.map .int), .int k]) := by
  unfold F_ulaw_refill fnF S_ulaw_refill
  cases ns with
  | nil =>
    by_cases h1 : (0:Int) < 1000000000000000000 <;> simp [seqS, setS, ifS, nilS, truO, tstF, andF, seqF, odS, odE, rd, cF, retS, opF, lenD, modD, i2, ltD, geD, mulD, addD, subD, intD, powD, N_ulaw_refill, rest, truD, smI]
  | cons n ns =>
    obtain ⟨v, hv⟩ := atI_in (ns := n :: ns) (i := k % ((ns.length : Int) + 1)) (Int.emod_nonneg _ (by omega)) (by rw [List.length_cons]; exact Int.emod_lt_of_pos _ (by omega))
    rw [List.map_cons] at hv ⊢
    have hp : (0:Int) < (ns.length : Int) + 1 := by omega
    by_cases h1 : v < 0 <;> by_cases h3 : k < (ns.length : Int) + 1
    · by_cases h2 : 1000000000000000000 ≤ 1 - 2 * v <;> simp [seqS, setS, ifS, nilS, truO, tstF, andF, seqF, odS, odE, rd, cF, retS, opF, lenD, modD, i2, ltD, geD, mulD, addD, subD, intD, powD, N_ulaw_refill, rest, truD, smI, ixD, hp, hv, h1, h2, h3]
    · by_cases h2 : 1000000000000000000 ≤ 1 - 2 * v <;> simp [seqS, setS, ifS, nilS, truO, tstF, andF, seqF, odS, odE, rd, cF, retS, opF, lenD, modD, i2, ltD, geD, mulD, addD, subD, intD, powD, N_ulaw_refill, rest, truD, smI, ixD, hp, hv, h1, h2, h3]
    · by_cases h2 : 1000000000000000000 ≤ v <;> simp [seqS, setS, ifS, nilS, truO, tstF, andF, seqF, odS, odE, rd, cF, retS, opF, lenD, modD, i2, ltD, geD, mulD, addD, subD, intD, powD, N_ulaw_refill, rest, truD, smI, ixD, hp, hv, h1, h2, h3]
    · by_cases h2 : 1000000000000000000 ≤ v <;> simp [seqS, setS, ifS, nilS, truO, tstF, andF, seqF, odS, odE, rd, cF, retS, opF, lenD, modD, i2, ltD, geD, mulD, addD, subD, intD, powD, N_ulaw_refill, rest, truD, smI, ixD, hp, hv, h1, h2, h3]
theorem draw_ok (ns : List Int) (k c m : Int) (hm : 0 < m) (hs : m < 1073741824) : ∃ v k' c', 0 ≤ v ∧ v < m ∧ F_ulaw_draw [.lst [.int k, .int c], .lst (ns.map .int), .int m] = some (.int v, [.lst [.int k', .int c'], .lst (ns.map .int), .int m]) := by
  obtain ⟨v, hv⟩ := refill_ok ns k
  unfold F_ulaw_draw fnF S_ulaw_draw
  by_cases hc : c = 0
  · refine ⟨v % m, k + 1, v / m, Int.emod_nonneg _ (by omega), Int.emod_lt_of_pos _ hm, ?_⟩
    simp [seqS, setS, ifS, nilS, stS, callF, wb, eqD, D.fit, D.dep, D.eqv, tstF, seqF, odS, odE, rd, cF, retS, opF, modD, fdivD, i2, addD, intD, N_ulaw_draw, rest, ixD, L2.atI, L2.ixN, hc, hv, hm, hs]
  · refine ⟨c % m, k, c / m, Int.emod_nonneg _ (by omega), Int.emod_lt_of_pos _ hm, ?_⟩
    simp [seqS, setS, ifS, nilS, stS, callF, wb, eqD, D.fit, D.dep, D.eqv, tstF, seqF, odS, odE, rd, cF, retS, opF, modD, fdivD, i2, addD, intD, N_ulaw_draw, rest, ixD, L2.atI, L2.ixN, hc, hv, hm, hs]


abbrev S0 (k c : Int) : D := .lst [.int k, .int c]
def Tr (s : SemS) (ρ : List D) : Prop := ∃ ρ', s ρ = some (.rt (.bl true) ρ')
theorem tr_seq {s t : SemS} {ρ ρ' : List D} (h : s ρ = some (.nx ρ')) (ht : Tr t ρ') : Tr (seqS s t) ρ := by
  obtain ⟨r, e⟩ := ht
  exact ⟨r, by unfold seqS; rw [h]; exact e⟩
theorem seq_nx {s t : SemS} {ρ ρ' : List D} {o : Option Out} (h : s ρ = some (.nx ρ')) (ht : t ρ' = o) : seqS s t ρ = o := by
  unfold seqS
  rw [h]
  exact ht
theorem seq_as (s u t : SemS) (ρ : List D) : seqS (seqS s u) t ρ = seqS s (seqS u t) ρ := by
  unfold seqS
  cases e : s ρ with
  | none => rfl
  | some o => cases o <;> rfl
theorem tr_as {s u t : SemS} {ρ : List D} (h : Tr (seqS (seqS s u) t) ρ) : Tr (seqS s (seqS u t)) ρ := by
  obtain ⟨r, e⟩ := h
  exact ⟨r, by rw [← seq_as]; exact e⟩
theorem fn_rt {Φ : List Nat} {n : Nat} {s : SemS} {ds ρ0 r : List D} {d : D} (h0 : ds ++ List.replicate (n - ds.length) .und = ρ0) (h : s ρ0 = some (.rt d r)) : fnF Φ n s ds = some (d, rest Φ 0 ds r) := by
  unfold fnF
  rw [h0, h]
  rfl
def okT (o : Option Out) : Bool := match o with | some (.rt (.bl true) _) => true | _ => false
theorem tr_end {s : SemS} {ρ : List D} (h : okT (s ρ) = true) : Tr (seqS s nilS) ρ := by
  unfold okT at h
  split at h
  · rename_i r e
    exact ⟨r, by unfold seqS; rw [e]; rfl⟩
  · cases h
theorem loopS_inv {m : Tgt} {s : SemS} {I : List D → Prop} (hs : ∀ x ρ, I ρ → ∃ ρ1 ρ2, m x ρ = some ρ1 ∧ s ρ1 = some (.nx ρ2) ∧ I ρ2) : ∀ xs ρ, I ρ → ∃ ρ', loopS m s xs ρ = some (.nx ρ') ∧ I ρ'
  | [], ρ, h => ⟨ρ, rfl, h⟩
  | x :: xs, ρ, h => by
    obtain ⟨ρ1, ρ2, e1, e2, h2⟩ := hs x ρ h
    obtain ⟨r, e, h3⟩ := loopS_inv hs xs ρ2 h2
    exact ⟨r, by unfold loopS; rw [e1]; show ((s ρ1).bind _) = _; rw [e2]; exact e, h3⟩
def kp (o : Option Out) : Option (D × D × Nat) := match o with | some (.nx (a :: b :: r)) => some (a, b, r.length) | _ => none
theorem len15 : ∀ {r : List D}, r.length = 15 → ∃ x2 x3 x4 x5 x6 x7 x8 x9 x10 x11 x12 x13 x14 x15 x16, r = [x2, x3, x4, x5, x6, x7, x8, x9, x10, x11, x12, x13, x14, x15, x16]
  | [x2, x3, x4, x5, x6, x7, x8, x9, x10, x11, x12, x13, x14, x15, x16], _ => ⟨x2, x3, x4, x5, x6, x7, x8, x9, x10, x11, x12, x13, x14, x15, x16, rfl⟩
theorem kp_nx {o : Option Out} {a b : D} (h : kp o = some (a, b, 15)) : ∃ x2 x3 x4 x5 x6 x7 x8 x9 x10 x11 x12 x13 x14 x15 x16, o = some (.nx [a, b, x2, x3, x4, x5, x6, x7, x8, x9, x10, x11, x12, x13, x14, x15, x16]) := by
  unfold kp at h
  split at h
  · rename_i a' b' r
    injection h with h
    injection h with h1 h
    injection h with h2 h
    subst h1 h2
    obtain ⟨x2, x3, x4, x5, x6, x7, x8, x9, x10, x11, x12, x13, x14, x15, x16, e⟩ := len15 h
    exact ⟨x2, x3, x4, x5, x6, x7, x8, x9, x10, x11, x12, x13, x14, x15, x16, by rw [e]⟩
  · cases h
def kq (o : Option Out) : Option (D × D × D × D × D) := match o with | some (.nx [a, b, _, _, c, d, e, _, _, _, _, _, _, _, _, _, _]) => some (a, b, c, d, e) | _ => none
theorem kq_nx {o : Option Out} {a b c d e : D} (h : kq o = some (a, b, c, d, e)) : ∃ x2 x3 x7 x8 x9 x10 x11 x12 x13 x14 x15 x16, o = some (.nx [a, b, x2, x3, c, d, e, x7, x8, x9, x10, x11, x12, x13, x14, x15, x16]) := by
  unfold kq at h
  split at h
  · simp only [Option.some.injEq, Prod.mk.injEq] at h
    obtain ⟨rfl, rfl, rfl, rfl, rfl⟩ := h
    exact ⟨_, _, _, _, _, _, _, _, _, _, _, _, rfl⟩
  · cases h
abbrev Box (a b c : Int) : Prop := ∀ sc st x5 x6 x7 x8 x9 x10 x11 x12 x13 x14 x15 x16 : D, kp (seqS L2 L3 [sc, st, .int a, .int b, .int c, x5, x6, x7, x8, x9, x10, x11, x12, x13, x14, x15, x16]) = some (sc, st, 15)
theorem box0 : Box 1 1 3 := by unfold Box; intros; kernel_rfl
theorem box1 : Box 1 3 2 := by unfold Box; intros; kernel_rfl
theorem box2 : Box 2 1 4 := by unfold Box; intros; kernel_rfl
theorem box3 : Box 2 2 2 := by unfold Box; intros; kernel_rfl
theorem box4 : Box 2 2 3 := by unfold Box; intros; kernel_rfl
theorem box5 : Box 3 2 2 := by unfold Box; intros; kernel_rfl
theorem box6 : Box 2 3 2 := by unfold Box; intros; kernel_rfl
theorem box7 : Box 3 3 1 := by unfold Box; intros; kernel_rfl
theorem box8 : Box 2 2 4 := by unfold Box; intros; kernel_rfl
theorem box9 : Box 3 1 3 := by unfold Box; intros; kernel_rfl
theorem box10 : Box 1 4 3 := by unfold Box; intros; kernel_rfl
theorem box11 : Box 3 3 2 := by unfold Box; intros; kernel_rfl
theorem l1_ok (ns : List Int) (k cc : Int) : ∃ a b c k2 c2, Box a b c ∧ L1 [(.lst (ns.map .int)), S0 k cc, .und, .und, .und, .und, .und, .und, .und, .und, .und, .und, .und, .und, .und, .und, .und] = some (.nx [(.lst (ns.map .int)), S0 k2 c2, .int a, .int b, .int c, .und, .und, .und, .und, .und, .und, .und, .und, .und, .und, .und, .und]) := by
  obtain ⟨v, k2, c2, h0, h1, e⟩ := draw_ok ns k cc 12 (by decide) (by decide)
  have hv : v = 0 ∨ v = 1 ∨ v = 2 ∨ v = 3 ∨ v = 4 ∨ v = 5 ∨ v = 6 ∨ v = 7 ∨ v = 8 ∨ v = 9 ∨ v = 10 ∨ v = 11 := by omega
  rcases hv with rfl | rfl | rfl | rfl | rfl | rfl | rfl | rfl | rfl | rfl | rfl | rfl
  · exact ⟨1, 1, 3, k2, c2, box0, by simp [L1, F_ulaw_box, S_ulaw_box, N_ulaw_box, ixD, L2.atI, L2.ixN, e, asgS, tgT, tgs, tgN, seqS, setS, nilS, ifS, ifF, callF, wb, tstF, seqF, odS, odE, rd, cF, retS, opF, addD, ltD, i2, tupD, lstD, lenD, fnF, rest, sizeLine]⟩
  · exact ⟨1, 3, 2, k2, c2, box1, by simp [L1, F_ulaw_box, S_ulaw_box, N_ulaw_box, ixD, L2.atI, L2.ixN, e, asgS, tgT, tgs, tgN, seqS, setS, nilS, ifS, ifF, callF, wb, tstF, seqF, odS, odE, rd, cF, retS, opF, addD, ltD, i2, tupD, lstD, lenD, fnF, rest, sizeLine]⟩
  · exact ⟨2, 1, 4, k2, c2, box2, by simp [L1, F_ulaw_box, S_ulaw_box, N_ulaw_box, ixD, L2.atI, L2.ixN, e, asgS, tgT, tgs, tgN, seqS, setS, nilS, ifS, ifF, callF, wb, tstF, seqF, odS, odE, rd, cF, retS, opF, addD, ltD, i2, tupD, lstD, lenD, fnF, rest, sizeLine]⟩
  · exact ⟨2, 2, 2, k2, c2, box3, by simp [L1, F_ulaw_box, S_ulaw_box, N_ulaw_box, ixD, L2.atI, L2.ixN, e, asgS, tgT, tgs, tgN, seqS, setS, nilS, ifS, ifF, callF, wb, tstF, seqF, odS, odE, rd, cF, retS, opF, addD, ltD, i2, tupD, lstD, lenD, fnF, rest, sizeLine]⟩
  · exact ⟨2, 2, 3, k2, c2, box4, by simp [L1, F_ulaw_box, S_ulaw_box, N_ulaw_box, ixD, L2.atI, L2.ixN, e, asgS, tgT, tgs, tgN, seqS, setS, nilS, ifS, ifF, callF, wb, tstF, seqF, odS, odE, rd, cF, retS, opF, addD, ltD, i2, tupD, lstD, lenD, fnF, rest, sizeLine]⟩
  · exact ⟨3, 2, 2, k2, c2, box5, by simp [L1, F_ulaw_box, S_ulaw_box, N_ulaw_box, ixD, L2.atI, L2.ixN, e, asgS, tgT, tgs, tgN, seqS, setS, nilS, ifS, ifF, callF, wb, tstF, seqF, odS, odE, rd, cF, retS, opF, addD, ltD, i2, tupD, lstD, lenD, fnF, rest, sizeLine]⟩
  · exact ⟨2, 3, 2, k2, c2, box6, by simp [L1, F_ulaw_box, S_ulaw_box, N_ulaw_box, ixD, L2.atI, L2.ixN, e, asgS, tgT, tgs, tgN, seqS, setS, nilS, ifS, ifF, callF, wb, tstF, seqF, odS, odE, rd, cF, retS, opF, addD, ltD, i2, tupD, lstD, lenD, fnF, rest, sizeLine]⟩
  · exact ⟨3, 3, 1, k2, c2, box7, by simp [L1, F_ulaw_box, S_ulaw_box, N_ulaw_box, ixD, L2.atI, L2.ixN, e, asgS, tgT, tgs, tgN, seqS, setS, nilS, ifS, ifF, callF, wb, tstF, seqF, odS, odE, rd, cF, retS, opF, addD, ltD, i2, tupD, lstD, lenD, fnF, rest, sizeLine]⟩
  · exact ⟨2, 2, 4, k2, c2, box8, by simp [L1, F_ulaw_box, S_ulaw_box, N_ulaw_box, ixD, L2.atI, L2.ixN, e, asgS, tgT, tgs, tgN, seqS, setS, nilS, ifS, ifF, callF, wb, tstF, seqF, odS, odE, rd, cF, retS, opF, addD, ltD, i2, tupD, lstD, lenD, fnF, rest, sizeLine]⟩
  · exact ⟨3, 1, 3, k2, c2, box9, by simp [L1, F_ulaw_box, S_ulaw_box, N_ulaw_box, ixD, L2.atI, L2.ixN, e, asgS, tgT, tgs, tgN, seqS, setS, nilS, ifS, ifF, callF, wb, tstF, seqF, odS, odE, rd, cF, retS, opF, addD, ltD, i2, tupD, lstD, lenD, fnF, rest, sizeLine]⟩
  · exact ⟨1, 4, 3, k2, c2, box10, by simp [L1, F_ulaw_box, S_ulaw_box, N_ulaw_box, ixD, L2.atI, L2.ixN, e, asgS, tgT, tgs, tgN, seqS, setS, nilS, ifS, ifF, callF, wb, tstF, seqF, odS, odE, rd, cF, retS, opF, addD, ltD, i2, tupD, lstD, lenD, fnF, rest, sizeLine]⟩
  · exact ⟨3, 3, 2, k2, c2, box11, by simp [L1, F_ulaw_box, S_ulaw_box, N_ulaw_box, ixD, L2.atI, L2.ixN, e, asgS, tgT, tgs, tgN, seqS, setS, nilS, ifS, ifF, callF, wb, tstF, seqF, odS, odE, rd, cF, retS, opF, addD, ltD, i2, tupD, lstD, lenD, fnF, rest, sizeLine]⟩
theorem l4_ok (ns : List Int) (k cc : Int) (x2 x3 x4 x5 x6 x7 x8 x9 x10 x11 x12 x13 x14 x15 x16 : D) : ∃ v k2 c2, 1 ≤ v ∧ v < 4 ∧ L4 [(.lst (ns.map .int)), S0 k cc, x2, x3, x4, x5, x6, x7, x8, x9, x10, x11, x12, x13, x14, x15, x16] = some (.nx [(.lst (ns.map .int)), S0 k2 c2, x2, x3, x4, x5, .int v, x7, x8, x9, x10, x11, x12, x13, x14, x15, x16]) := by
  obtain ⟨v, k2, c2, h0, h1, e⟩ := draw_ok ns k cc 3 (by decide) (by decide)
  exact ⟨1 + v, k2, c2, by omega, by omega, by simp [L4, e, asgS, tgT, tgs, tgN, seqS, setS, nilS, ifS, ifF, callF, wb, tstF, seqF, odS, odE, rd, cF, retS, opF, addD, ltD, i2, tupD, lstD, lenD, fnF, rest, sizeLine]⟩
theorem l11_ok (ns : List Int) (k cc : Int) (x2 x3 x4 x5 x6 x7 x8 x9 x10 x11 x12 x13 x14 x15 x16 : D) : ∃ v k2 c2, 1 ≤ v ∧ v < 3 ∧ L11 [(.lst (ns.map .int)), S0 k cc, x2, x3, x4, x5, x6, x7, x8, x9, x10, x11, x12, x13, x14, x15, x16] = some (.nx [(.lst (ns.map .int)), S0 k2 c2, x2, x3, x4, x5, .int v, x7, x8, x9, x10, x11, x12, x13, x14, x15, x16]) := by
  obtain ⟨v, k2, c2, h0, h1, e⟩ := draw_ok ns k cc 2 (by decide) (by decide)
  exact ⟨1 + v, k2, c2, by omega, by omega, by simp [L11, e, asgS, tgT, tgs, tgN, seqS, setS, nilS, ifS, ifF, callF, wb, tstF, seqF, odS, odE, rd, cF, retS, opF, addD, ltD, i2, tupD, lstD, lenD, fnF, rest, sizeLine]⟩
theorem l23_ok (ns : List Int) (k cc : Int) (x2 x3 x4 x5 x6 x7 x8 x9 x10 x11 x12 x13 x14 x15 x16 : D) : ∃ v k2 c2, 1 ≤ v ∧ v < 9 ∧ L23 [(.lst (ns.map .int)), S0 k cc, x2, x3, x4, x5, x6, x7, x8, x9, x10, x11, x12, x13, x14, x15, x16] = some (.nx [(.lst (ns.map .int)), S0 k2 c2, .int v, x3, x4, x5, x6, x7, x8, x9, x10, x11, x12, x13, x14, x15, x16]) := by
  obtain ⟨v, k2, c2, h0, h1, e⟩ := draw_ok ns k cc 8 (by decide) (by decide)
  exact ⟨1 + v, k2, c2, by omega, by omega, by simp [L23, e, asgS, tgT, tgs, tgN, seqS, setS, nilS, ifS, ifF, callF, wb, tstF, seqF, odS, odE, rd, cF, retS, opF, addD, ltD, i2, tupD, lstD, lenD, fnF, rest, sizeLine]⟩
theorem l5_lt (ns : List Int) (k cc n : Int) (hn : n < 3) (x2 x3 x4 x5 x7 x8 x9 x10 x11 x12 x13 x14 x15 x16 : D) : ∃ c k2 c2, (c = 1 ∨ c = 2 ∨ c = 3 ∨ c = 4) ∧ L5 [(.lst (ns.map .int)), S0 k cc, x2, x3, x4, x5, .int n, x7, x8, x9, x10, x11, x12, x13, x14, x15, x16] = some (.nx [(.lst (ns.map .int)), S0 k2 c2, x2, x3, .int c, x5, .int n, x7, x8, x9, x10, x11, x12, x13, x14, x15, x16]) := by
  obtain ⟨v, k2, c2, h0, h1, e⟩ := draw_ok ns k cc 5 (by decide) (by decide)
  have hv : v = 0 ∨ v = 1 ∨ v = 2 ∨ v = 3 ∨ v = 4 := by omega
  rcases hv with rfl | rfl | rfl | rfl | rfl
  · exact ⟨1, k2, c2, by decide, by simp [L5, ixD, L2.atI, L2.ixN, e, hn, asgS, tgT, tgs, tgN, seqS, setS, nilS, ifS, ifF, callF, wb, tstF, seqF, odS, odE, rd, cF, retS, opF, addD, ltD, i2, tupD, lstD, lenD, fnF, rest, sizeLine]⟩
  · exact ⟨2, k2, c2, by decide, by simp [L5, ixD, L2.atI, L2.ixN, e, hn, asgS, tgT, tgs, tgN, seqS, setS, nilS, ifS, ifF, callF, wb, tstF, seqF, odS, odE, rd, cF, retS, opF, addD, ltD, i2, tupD, lstD, lenD, fnF, rest, sizeLine]⟩
  · exact ⟨3, k2, c2, by decide, by simp [L5, ixD, L2.atI, L2.ixN, e, hn, asgS, tgT, tgs, tgN, seqS, setS, nilS, ifS, ifF, callF, wb, tstF, seqF, odS, odE, rd, cF, retS, opF, addD, ltD, i2, tupD, lstD, lenD, fnF, rest, sizeLine]⟩
  · exact ⟨4, k2, c2, by decide, by simp [L5, ixD, L2.atI, L2.ixN, e, hn, asgS, tgT, tgs, tgN, seqS, setS, nilS, ifS, ifF, callF, wb, tstF, seqF, odS, odE, rd, cF, retS, opF, addD, ltD, i2, tupD, lstD, lenD, fnF, rest, sizeLine]⟩
  · exact ⟨2, k2, c2, by decide, by simp [L5, ixD, L2.atI, L2.ixN, e, hn, asgS, tgT, tgs, tgN, seqS, setS, nilS, ifS, ifF, callF, wb, tstF, seqF, odS, odE, rd, cF, retS, opF, addD, ltD, i2, tupD, lstD, lenD, fnF, rest, sizeLine]⟩
theorem l5_ge (ns : List Int) (k cc n : Int) (hn : ¬ n < 3) (x2 x3 x4 x5 x7 x8 x9 x10 x11 x12 x13 x14 x15 x16 : D) : ∃ c k2 c2, (c = 1 ∨ c = 2) ∧ L5 [(.lst (ns.map .int)), S0 k cc, x2, x3, x4, x5, .int n, x7, x8, x9, x10, x11, x12, x13, x14, x15, x16] = some (.nx [(.lst (ns.map .int)), S0 k2 c2, x2, x3, .int c, x5, .int n, x7, x8, x9, x10, x11, x12, x13, x14, x15, x16]) := by
  obtain ⟨v, k2, c2, h0, h1, e⟩ := draw_ok ns k cc 2 (by decide) (by decide)
  have hv : v = 0 ∨ v = 1 := by omega
  rcases hv with rfl | rfl
  · exact ⟨1, k2, c2, by decide, by simp [L5, ixD, L2.atI, L2.ixN, e, hn, asgS, tgT, tgs, tgN, seqS, setS, nilS, ifS, ifF, callF, wb, tstF, seqF, odS, odE, rd, cF, retS, opF, addD, ltD, i2, tupD, lstD, lenD, fnF, rest, sizeLine]⟩
  · exact ⟨2, k2, c2, by decide, by simp [L5, ixD, L2.atI, L2.ixN, e, hn, asgS, tgT, tgs, tgN, seqS, setS, nilS, ifS, ifF, callF, wb, tstF, seqF, odS, odE, rd, cF, retS, opF, addD, ltD, i2, tupD, lstD, lenD, fnF, rest, sizeLine]⟩
def hp (n c : Int) : List D := match F_ulaw_heaps [.int n, .int n, .int c] with | some (.lst xs, _) => xs | _ => []
def A12 : SemS := (setS 12 (opF ixD [odS [0, 1, 0, 0, 0, 0, 0, 0, 0, 0, 0, 0, 0, 0, 0, 0, 0] 5, odE [1] 0 (callF [odS [0, 1, 0, 0, 0, 0, 0, 0, 0, 0, 0, 0, 0, 0, 0, 0, 0] 1, odE [] 0 (rd 0), odE [] 0 (opF lenD [odS [0, 1, 0, 0, 0, 0, 0, 0, 0, 0, 0, 0, 0, 0, 0, 0, 0] 5])] F_ulaw_draw)]))
def B14 : SemS := (seqS (setS 14 (opF lstD [odE [] 0 (opF eqD [odE [] 0 (callF [odE [] 0 (rd 12)] F_ulaw_swapped), odS [0, 1, 0, 0, 0, 0, 0, 0, 0, 0, 0, 0, 0, 0, 0, 0, 0] 12]), odE [] 0 (opF eqD [odE [] 0 (callF [odE [] 0 (rd 12), odE [] 0 (rd 4)] F_ulaw_lacks), odS [0, 1, 0, 0, 0, 0, 0, 0, 0, 0, 0, 0, 0, 0, 0, 0, 0] 12]), odE [] 0 (opF eqD [odE [] 0 (callF [odE [] 0 (callF [odE [] 0 (rd 12), odE [] 0 (rd 4)] F_ulaw_lacks)] F_ulaw_swapped), odS [0, 1, 0, 0, 0, 0, 0, 0, 0, 0, 0, 0, 0, 0, 0, 0, 0] 12])])) (seqS (ifS (notF (truO (odE [] 0 (callF [odE [] 0 (rd 14), odE [] 0 (opF lstD [odE [] 0 (callF [odE [] 0 (rd 12)] F_is_swapped), odE [] 0 (callF [odE [] 0 (rd 12), odE [] 0 (rd 4)] F_is_mirrored), odE [] 0 (callF [odE [] 0 (rd 12), odE [] 0 (rd 4)] F_is_crossed)])] (F_ulaw_exact 12))))) (seqS (retS (cF (.bl false))) (nilS)) (nilS)) (nilS)))
structure Good (n c : Int) (xs : List D) : Prop where
  l6 : ∀ sc st x2 x3 x5 x7 x8 x9 x10 x11 x12 x13 x14 x15 x16 : D, L6 [sc, st, x2, x3, .int c, x5, .int n, x7, x8, x9, x10, x11, x12, x13, x14, x15, x16] = some (.nx [sc, st, x2, x3, .int c, .lst xs, .int n, x7, x8, x9, x10, x11, x12, x13, x14, x15, x16])
  l79 : ∀ sc st x2 x3 x7 x8 x9 x10 x11 x12 x13 x14 x15 x16 : D, kq (seqS (seqS L7 L8) L9 [sc, st, x2, x3, .int c, .lst xs, .int n, x7, x8, x9, x10, x11, x12, x13, x14, x15, x16]) = some (sc, st, .int c, .lst xs, .int n)
  pos : (decide (0 < xs.length) && decide (xs.length < 1073741824)) = true
  rows : ∀ sc st x2 x3 x7 x8 x9 x10 x11 x13 x14 x15 x16 : D, xs.map (fun row => kq (B14 [sc, st, x2, x3, .int c, .lst xs, .int n, x7, x8, x9, x10, x11, row, x13, x14, x15, x16])) = List.replicate xs.length (some (sc, st, .int c, .lst xs, .int n))
theorem gl6_1_1 : ∀ sc st x2 x3 x5 x7 x8 x9 x10 x11 x12 x13 x14 x15 x16 : D, L6 [sc, st, x2, x3, .int 1, x5, .int 1, x7, x8, x9, x10, x11, x12, x13, x14, x15, x16] = some (.nx [sc, st, x2, x3, .int 1, .lst (hp 1 1), .int 1, x7, x8, x9, x10, x11, x12, x13, x14, x15, x16]) := by intros; kernel_rfl
theorem gl79_1_1 : ∀ sc st x2 x3 x7 x8 x9 x10 x11 x12 x13 x14 x15 x16 : D, kq (seqS (seqS L7 L8) L9 [sc, st, x2, x3, .int 1, .lst (hp 1 1), .int 1, x7, x8, x9, x10, x11, x12, x13, x14, x15, x16]) = some (sc, st, .int 1, .lst (hp 1 1), .int 1) := by intros; kernel_rfl
theorem gpos_1_1 : (decide (0 < (hp 1 1).length) && decide ((hp 1 1).length < 1073741824)) = true := by kernel_rfl
theorem grow_1_1 : ∀ sc st x2 x3 x7 x8 x9 x10 x11 x13 x14 x15 x16 : D, (hp 1 1).map (fun row => kq (B14 [sc, st, x2, x3, .int 1, .lst (hp 1 1), .int 1, x7, x8, x9, x10, x11, row, x13, x14, x15, x16])) = List.replicate (hp 1 1).length (some (sc, st, .int 1, .lst (hp 1 1), .int 1)) := by intros; kernel_rfl
theorem good_1_1 : Good 1 1 (hp 1 1) := ⟨gl6_1_1, gl79_1_1, gpos_1_1, grow_1_1⟩
theorem gl6_1_2 : ∀ sc st x2 x3 x5 x7 x8 x9 x10 x11 x12 x13 x14 x15 x16 : D, L6 [sc, st, x2, x3, .int 2, x5, .int 1, x7, x8, x9, x10, x11, x12, x13, x14, x15, x16] = some (.nx [sc, st, x2, x3, .int 2, .lst (hp 1 2), .int 1, x7, x8, x9, x10, x11, x12, x13, x14, x15, x16]) := by intros; kernel_rfl
theorem gl79_1_2 : ∀ sc st x2 x3 x7 x8 x9 x10 x11 x12 x13 x14 x15 x16 : D, kq (seqS (seqS L7 L8) L9 [sc, st, x2, x3, .int 2, .lst (hp 1 2), .int 1, x7, x8, x9, x10, x11, x12, x13, x14, x15, x16]) = some (sc, st, .int 2, .lst (hp 1 2), .int 1) := by intros; kernel_rfl
theorem gpos_1_2 : (decide (0 < (hp 1 2).length) && decide ((hp 1 2).length < 1073741824)) = true := by kernel_rfl
theorem grow_1_2 : ∀ sc st x2 x3 x7 x8 x9 x10 x11 x13 x14 x15 x16 : D, (hp 1 2).map (fun row => kq (B14 [sc, st, x2, x3, .int 2, .lst (hp 1 2), .int 1, x7, x8, x9, x10, x11, row, x13, x14, x15, x16])) = List.replicate (hp 1 2).length (some (sc, st, .int 2, .lst (hp 1 2), .int 1)) := by intros; kernel_rfl
theorem good_1_2 : Good 1 2 (hp 1 2) := ⟨gl6_1_2, gl79_1_2, gpos_1_2, grow_1_2⟩
theorem gl6_1_3 : ∀ sc st x2 x3 x5 x7 x8 x9 x10 x11 x12 x13 x14 x15 x16 : D, L6 [sc, st, x2, x3, .int 3, x5, .int 1, x7, x8, x9, x10, x11, x12, x13, x14, x15, x16] = some (.nx [sc, st, x2, x3, .int 3, .lst (hp 1 3), .int 1, x7, x8, x9, x10, x11, x12, x13, x14, x15, x16]) := by intros; kernel_rfl
theorem gl79_1_3 : ∀ sc st x2 x3 x7 x8 x9 x10 x11 x12 x13 x14 x15 x16 : D, kq (seqS (seqS L7 L8) L9 [sc, st, x2, x3, .int 3, .lst (hp 1 3), .int 1, x7, x8, x9, x10, x11, x12, x13, x14, x15, x16]) = some (sc, st, .int 3, .lst (hp 1 3), .int 1) := by intros; kernel_rfl
theorem gpos_1_3 : (decide (0 < (hp 1 3).length) && decide ((hp 1 3).length < 1073741824)) = true := by kernel_rfl
theorem grow_1_3 : ∀ sc st x2 x3 x7 x8 x9 x10 x11 x13 x14 x15 x16 : D, (hp 1 3).map (fun row => kq (B14 [sc, st, x2, x3, .int 3, .lst (hp 1 3), .int 1, x7, x8, x9, x10, x11, row, x13, x14, x15, x16])) = List.replicate (hp 1 3).length (some (sc, st, .int 3, .lst (hp 1 3), .int 1)) := by intros; kernel_rfl
theorem good_1_3 : Good 1 3 (hp 1 3) := ⟨gl6_1_3, gl79_1_3, gpos_1_3, grow_1_3⟩
theorem gl6_1_4 : ∀ sc st x2 x3 x5 x7 x8 x9 x10 x11 x12 x13 x14 x15 x16 : D, L6 [sc, st, x2, x3, .int 4, x5, .int 1, x7, x8, x9, x10, x11, x12, x13, x14, x15, x16] = some (.nx [sc, st, x2, x3, .int 4, .lst (hp 1 4), .int 1, x7, x8, x9, x10, x11, x12, x13, x14, x15, x16]) := by intros; kernel_rfl
theorem gl79_1_4 : ∀ sc st x2 x3 x7 x8 x9 x10 x11 x12 x13 x14 x15 x16 : D, kq (seqS (seqS L7 L8) L9 [sc, st, x2, x3, .int 4, .lst (hp 1 4), .int 1, x7, x8, x9, x10, x11, x12, x13, x14, x15, x16]) = some (sc, st, .int 4, .lst (hp 1 4), .int 1) := by intros; kernel_rfl
theorem gpos_1_4 : (decide (0 < (hp 1 4).length) && decide ((hp 1 4).length < 1073741824)) = true := by kernel_rfl
theorem grow_1_4 : ∀ sc st x2 x3 x7 x8 x9 x10 x11 x13 x14 x15 x16 : D, (hp 1 4).map (fun row => kq (B14 [sc, st, x2, x3, .int 4, .lst (hp 1 4), .int 1, x7, x8, x9, x10, x11, row, x13, x14, x15, x16])) = List.replicate (hp 1 4).length (some (sc, st, .int 4, .lst (hp 1 4), .int 1)) := by intros; kernel_rfl
theorem good_1_4 : Good 1 4 (hp 1 4) := ⟨gl6_1_4, gl79_1_4, gpos_1_4, grow_1_4⟩
theorem gl6_2_1 : ∀ sc st x2 x3 x5 x7 x8 x9 x10 x11 x12 x13 x14 x15 x16 : D, L6 [sc, st, x2, x3, .int 1, x5, .int 2, x7, x8, x9, x10, x11, x12, x13, x14, x15, x16] = some (.nx [sc, st, x2, x3, .int 1, .lst (hp 2 1), .int 2, x7, x8, x9, x10, x11, x12, x13, x14, x15, x16]) := by intros; kernel_rfl
theorem gl79_2_1 : ∀ sc st x2 x3 x7 x8 x9 x10 x11 x12 x13 x14 x15 x16 : D, kq (seqS (seqS L7 L8) L9 [sc, st, x2, x3, .int 1, .lst (hp 2 1), .int 2, x7, x8, x9, x10, x11, x12, x13, x14, x15, x16]) = some (sc, st, .int 1, .lst (hp 2 1), .int 2) := by intros; kernel_rfl
theorem gpos_2_1 : (decide (0 < (hp 2 1).length) && decide ((hp 2 1).length < 1073741824)) = true := by kernel_rfl
theorem grow_2_1 : ∀ sc st x2 x3 x7 x8 x9 x10 x11 x13 x14 x15 x16 : D, (hp 2 1).map (fun row => kq (B14 [sc, st, x2, x3, .int 1, .lst (hp 2 1), .int 2, x7, x8, x9, x10, x11, row, x13, x14, x15, x16])) = List.replicate (hp 2 1).length (some (sc, st, .int 1, .lst (hp 2 1), .int 2)) := by intros; kernel_rfl
theorem good_2_1 : Good 2 1 (hp 2 1) := ⟨gl6_2_1, gl79_2_1, gpos_2_1, grow_2_1⟩
theorem gl6_2_2 : ∀ sc st x2 x3 x5 x7 x8 x9 x10 x11 x12 x13 x14 x15 x16 : D, L6 [sc, st, x2, x3, .int 2, x5, .int 2, x7, x8, x9, x10, x11, x12, x13, x14, x15, x16] = some (.nx [sc, st, x2, x3, .int 2, .lst (hp 2 2), .int 2, x7, x8, x9, x10, x11, x12, x13, x14, x15, x16]) := by intros; kernel_rfl
theorem gl79_2_2 : ∀ sc st x2 x3 x7 x8 x9 x10 x11 x12 x13 x14 x15 x16 : D, kq (seqS (seqS L7 L8) L9 [sc, st, x2, x3, .int 2, .lst (hp 2 2), .int 2, x7, x8, x9, x10, x11, x12, x13, x14, x15, x16]) = some (sc, st, .int 2, .lst (hp 2 2), .int 2) := by intros; kernel_rfl
theorem gpos_2_2 : (decide (0 < (hp 2 2).length) && decide ((hp 2 2).length < 1073741824)) = true := by kernel_rfl
theorem grow_2_2 : ∀ sc st x2 x3 x7 x8 x9 x10 x11 x13 x14 x15 x16 : D, (hp 2 2).map (fun row => kq (B14 [sc, st, x2, x3, .int 2, .lst (hp 2 2), .int 2, x7, x8, x9, x10, x11, row, x13, x14, x15, x16])) = List.replicate (hp 2 2).length (some (sc, st, .int 2, .lst (hp 2 2), .int 2)) := by intros; kernel_rfl
theorem good_2_2 : Good 2 2 (hp 2 2) := ⟨gl6_2_2, gl79_2_2, gpos_2_2, grow_2_2⟩
theorem gl6_2_3 : ∀ sc st x2 x3 x5 x7 x8 x9 x10 x11 x12 x13 x14 x15 x16 : D, L6 [sc, st, x2, x3, .int 3, x5, .int 2, x7, x8, x9, x10, x11, x12, x13, x14, x15, x16] = some (.nx [sc, st, x2, x3, .int 3, .lst (hp 2 3), .int 2, x7, x8, x9, x10, x11, x12, x13, x14, x15, x16]) := by intros; kernel_rfl
theorem gl79_2_3 : ∀ sc st x2 x3 x7 x8 x9 x10 x11 x12 x13 x14 x15 x16 : D, kq (seqS (seqS L7 L8) L9 [sc, st, x2, x3, .int 3, .lst (hp 2 3), .int 2, x7, x8, x9, x10, x11, x12, x13, x14, x15, x16]) = some (sc, st, .int 3, .lst (hp 2 3), .int 2) := by intros; kernel_rfl
theorem gpos_2_3 : (decide (0 < (hp 2 3).length) && decide ((hp 2 3).length < 1073741824)) = true := by kernel_rfl
theorem grow_2_3 : ∀ sc st x2 x3 x7 x8 x9 x10 x11 x13 x14 x15 x16 : D, (hp 2 3).map (fun row => kq (B14 [sc, st, x2, x3, .int 3, .lst (hp 2 3), .int 2, x7, x8, x9, x10, x11, row, x13, x14, x15, x16])) = List.replicate (hp 2 3).length (some (sc, st, .int 3, .lst (hp 2 3), .int 2)) := by intros; kernel_rfl
theorem good_2_3 : Good 2 3 (hp 2 3) := ⟨gl6_2_3, gl79_2_3, gpos_2_3, grow_2_3⟩
theorem gl6_2_4 : ∀ sc st x2 x3 x5 x7 x8 x9 x10 x11 x12 x13 x14 x15 x16 : D, L6 [sc, st, x2, x3, .int 4, x5, .int 2, x7, x8, x9, x10, x11, x12, x13, x14, x15, x16] = some (.nx [sc, st, x2, x3, .int 4, .lst (hp 2 4), .int 2, x7, x8, x9, x10, x11, x12, x13, x14, x15, x16]) := by intros; kernel_rfl
theorem gl79_2_4 : ∀ sc st x2 x3 x7 x8 x9 x10 x11 x12 x13 x14 x15 x16 : D, kq (seqS (seqS L7 L8) L9 [sc, st, x2, x3, .int 4, .lst (hp 2 4), .int 2, x7, x8, x9, x10, x11, x12, x13, x14, x15, x16]) = some (sc, st, .int 4, .lst (hp 2 4), .int 2) := by intros; kernel_rfl
theorem gpos_2_4 : (decide (0 < (hp 2 4).length) && decide ((hp 2 4).length < 1073741824)) = true := by kernel_rfl
theorem grow_2_4 : ∀ sc st x2 x3 x7 x8 x9 x10 x11 x13 x14 x15 x16 : D, (hp 2 4).map (fun row => kq (B14 [sc, st, x2, x3, .int 4, .lst (hp 2 4), .int 2, x7, x8, x9, x10, x11, row, x13, x14, x15, x16])) = List.replicate (hp 2 4).length (some (sc, st, .int 4, .lst (hp 2 4), .int 2)) := by intros; kernel_rfl
theorem good_2_4 : Good 2 4 (hp 2 4) := ⟨gl6_2_4, gl79_2_4, gpos_2_4, grow_2_4⟩
theorem gl6_3_1 : ∀ sc st x2 x3 x5 x7 x8 x9 x10 x11 x12 x13 x14 x15 x16 : D, L6 [sc, st, x2, x3, .int 1, x5, .int 3, x7, x8, x9, x10, x11, x12, x13, x14, x15, x16] = some (.nx [sc, st, x2, x3, .int 1, .lst (hp 3 1), .int 3, x7, x8, x9, x10, x11, x12, x13, x14, x15, x16]) := by intros; kernel_rfl
theorem gl79_3_1 : ∀ sc st x2 x3 x7 x8 x9 x10 x11 x12 x13 x14 x15 x16 : D, kq (seqS (seqS L7 L8) L9 [sc, st, x2, x3, .int 1, .lst (hp 3 1), .int 3, x7, x8, x9, x10, x11, x12, x13, x14, x15, x16]) = some (sc, st, .int 1, .lst (hp 3 1), .int 3) := by intros; kernel_rfl
theorem gpos_3_1 : (decide (0 < (hp 3 1).length) && decide ((hp 3 1).length < 1073741824)) = true := by kernel_rfl
theorem grow_3_1 : ∀ sc st x2 x3 x7 x8 x9 x10 x11 x13 x14 x15 x16 : D, (hp 3 1).map (fun row => kq (B14 [sc, st, x2, x3, .int 1, .lst (hp 3 1), .int 3, x7, x8, x9, x10, x11, row, x13, x14, x15, x16])) = List.replicate (hp 3 1).length (some (sc, st, .int 1, .lst (hp 3 1), .int 3)) := by intros; kernel_rfl
theorem good_3_1 : Good 3 1 (hp 3 1) := ⟨gl6_3_1, gl79_3_1, gpos_3_1, grow_3_1⟩
def lit0 : List D := [.tup [.tup [.int 0, .int 0, .int 0], .tup [.int 0, .int 0, .int 0], .tup [.int 0, .int 0, .int 0]], .tup [.tup [.int 1, .int 0, .int 0], .tup [.int 0, .int 0, .int 0], .tup [.int 0, .int 0, .int 0]], .tup [.tup [.int 1, .int 0, .int 0], .tup [.int 1, .int 0, .int 0], .tup [.int 0, .int 0, .int 0]], .tup [.tup [.int 1, .int 0, .int 0], .tup [.int 1, .int 0, .int 0], .tup [.int 1, .int 0, .int 0]], .tup [.tup [.int 1, .int 1, .int 0], .tup [.int 0, .int 0, .int 0], .tup [.int 0, .int 0, .int 0]], .tup [.tup [.int 1, .int 1, .int 0], .tup [.int 1, .int 0, .int 0], .tup [.int 0, .int 0, .int 0]], .tup [.tup [.int 1, .int 1, .int 0], .tup [.int 1, .int 0, .int 0], .tup [.int 1, .int 0, .int 0]], .tup [.tup [.int 1, .int 1, .int 0], .tup [.int 1, .int 1, .int 0], .tup [.int 0, .int 0, .int 0]], .tup [.tup [.int 1, .int 1, .int 0], .tup [.int 1, .int 1, .int 0], .tup [.int 1, .int 0, .int 0]], .tup [.tup [.int 1, .int 1, .int 0], .tup [.int 1, .int 1, .int 0], .tup [.int 1, .int 1, .int 0]], .tup [.tup [.int 1, .int 1, .int 1], .tup [.int 0, .int 0, .int 0], .tup [.int 0, .int 0, .int 0]], .tup [.tup [.int 1, .int 1, .int 1], .tup [.int 1, .int 0, .int 0], .tup [.int 0, .int 0, .int 0]], .tup [.tup [.int 1, .int 1, .int 1], .tup [.int 1, .int 0, .int 0], .tup [.int 1, .int 0, .int 0]], .tup [.tup [.int 1, .int 1, .int 1], .tup [.int 1, .int 1, .int 0], .tup [.int 0, .int 0, .int 0]], .tup [.tup [.int 1, .int 1, .int 1], .tup [.int 1, .int 1, .int 0], .tup [.int 1, .int 0, .int 0]], .tup [.tup [.int 1, .int 1, .int 1], .tup [.int 1, .int 1, .int 0], .tup [.int 1, .int 1, .int 0]], .tup [.tup [.int 1, .int 1, .int 1], .tup [.int 1, .int 1, .int 1], .tup [.int 0, .int 0, .int 0]], .tup [.tup [.int 1, .int 1, .int 1], .tup [.int 1, .int 1, .int 1], .tup [.int 1, .int 0, .int 0]], .tup [.tup [.int 1, .int 1, .int 1], .tup [.int 1, .int 1, .int 1], .tup [.int 1, .int 1, .int 0]], .tup [.tup [.int 1, .int 1, .int 1], .tup [.int 1, .int 1, .int 1], .tup [.int 1, .int 1, .int 1]], .tup [.tup [.int 2, .int 0, .int 0], .tup [.int 0, .int 0, .int 0], .tup [.int 0, .int 0, .int 0]], .tup [.tup [.int 2, .int 0, .int 0], .tup [.int 1, .int 0, .int 0], .tup [.int 0, .int 0, .int 0]], .tup [.tup [.int 2, .int 0, .int 0], .tup [.int 1, .int 0, .int 0], .tup [.int 1, .int 0, .int 0]], .tup [.tup [.int 2, .int 0, .int 0], .tup [.int 2, .int 0, .int 0], .tup [.int 0, .int 0, .int 0]], .tup [.tup [.int 2, .int 0, .int 0], .tup [.int 2, .int 0, .int 0], .tup [.int 1, .int 0, .int 0]]]
def lit1 : List D := [.tup [.tup [.int 2, .int 0, .int 0], .tup [.int 2, .int 0, .int 0], .tup [.int 2, .int 0, .int 0]], .tup [.tup [.int 2, .int 1, .int 0], .tup [.int 0, .int 0, .int 0], .tup [.int 0, .int 0, .int 0]], .tup [.tup [.int 2, .int 1, .int 0], .tup [.int 1, .int 0, .int 0], .tup [.int 0, .int 0, .int 0]], .tup [.tup [.int 2, .int 1, .int 0], .tup [.int 1, .int 0, .int 0], .tup [.int 1, .int 0, .int 0]], .tup [.tup [.int 2, .int 1, .int 0], .tup [.int 1, .int 1, .int 0], .tup [.int 0, .int 0, .int 0]], .tup [.tup [.int 2, .int 1, .int 0], .tup [.int 1, .int 1, .int 0], .tup [.int 1, .int 0, .int 0]], .tup [.tup [.int 2, .int 1, .int 0], .tup [.int 1, .int 1, .int 0], .tup [.int 1, .int 1, .int 0]], .tup [.tup [.int 2, .int 1, .int 0], .tup [.int 2, .int 0, .int 0], .tup [.int 0, .int 0, .int 0]], .tup [.tup [.int 2, .int 1, .int 0], .tup [.int 2, .int 0, .int 0], .tup [.int 1, .int 0, .int 0]], .tup [.tup [.int 2, .int 1, .int 0], .tup [.int 2, .int 0, .int 0], .tup [.int 2, .int 0, .int 0]], .tup [.tup [.int 2, .int 1, .int 0], .tup [.int 2, .int 1, .int 0], .tup [.int 0, .int 0, .int 0]], .tup [.tup [.int 2, .int 1, .int 0], .tup [.int 2, .int 1, .int 0], .tup [.int 1, .int 0, .int 0]], .tup [.tup [.int 2, .int 1, .int 0], .tup [.int 2, .int 1, .int 0], .tup [.int 1, .int 1, .int 0]], .tup [.tup [.int 2, .int 1, .int 0], .tup [.int 2, .int 1, .int 0], .tup [.int 2, .int 0, .int 0]], .tup [.tup [.int 2, .int 1, .int 0], .tup [.int 2, .int 1, .int 0], .tup [.int 2, .int 1, .int 0]], .tup [.tup [.int 2, .int 1, .int 1], .tup [.int 0, .int 0, .int 0], .tup [.int 0, .int 0, .int 0]], .tup [.tup [.int 2, .int 1, .int 1], .tup [.int 1, .int 0, .int 0], .tup [.int 0, .int 0, .int 0]], .tup [.tup [.int 2, .int 1, .int 1], .tup [.int 1, .int 0, .int 0], .tup [.int 1, .int 0, .int 0]], .tup [.tup [.int 2, .int 1, .int 1], .tup [.int 1, .int 1, .int 0], .tup [.int 0, .int 0, .int 0]], .tup [.tup [.int 2, .int 1, .int 1], .tup [.int 1, .int 1, .int 0], .tup [.int 1, .int 0, .int 0]], .tup [.tup [.int 2, .int 1, .int 1], .tup [.int 1, .int 1, .int 0], .tup [.int 1, .int 1, .int 0]], .tup [.tup [.int 2, .int 1, .int 1], .tup [.int 1, .int 1, .int 1], .tup [.int 0, .int 0, .int 0]], .tup [.tup [.int 2, .int 1, .int 1], .tup [.int 1, .int 1, .int 1], .tup [.int 1, .int 0, .int 0]], .tup [.tup [.int 2, .int 1, .int 1], .tup [.int 1, .int 1, .int 1], .tup [.int 1, .int 1, .int 0]], .tup [.tup [.int 2, .int 1, .int 1], .tup [.int 1, .int 1, .int 1], .tup [.int 1, .int 1, .int 1]]]
def lit2 : List D := [.tup [.tup [.int 2, .int 1, .int 1], .tup [.int 2, .int 0, .int 0], .tup [.int 0, .int 0, .int 0]], .tup [.tup [.int 2, .int 1, .int 1], .tup [.int 2, .int 0, .int 0], .tup [.int 1, .int 0, .int 0]], .tup [.tup [.int 2, .int 1, .int 1], .tup [.int 2, .int 0, .int 0], .tup [.int 2, .int 0, .int 0]], .tup [.tup [.int 2, .int 1, .int 1], .tup [.int 2, .int 1, .int 0], .tup [.int 0, .int 0, .int 0]], .tup [.tup [.int 2, .int 1, .int 1], .tup [.int 2, .int 1, .int 0], .tup [.int 1, .int 0, .int 0]], .tup [.tup [.int 2, .int 1, .int 1], .tup [.int 2, .int 1, .int 0], .tup [.int 1, .int 1, .int 0]], .tup [.tup [.int 2, .int 1, .int 1], .tup [.int 2, .int 1, .int 0], .tup [.int 2, .int 0, .int 0]], .tup [.tup [.int 2, .int 1, .int 1], .tup [.int 2, .int 1, .int 0], .tup [.int 2, .int 1, .int 0]], .tup [.tup [.int 2, .int 1, .int 1], .tup [.int 2, .int 1, .int 1], .tup [.int 0, .int 0, .int 0]], .tup [.tup [.int 2, .int 1, .int 1], .tup [.int 2, .int 1, .int 1], .tup [.int 1, .int 0, .int 0]], .tup [.tup [.int 2, .int 1, .int 1], .tup [.int 2, .int 1, .int 1], .tup [.int 1, .int 1, .int 0]], .tup [.tup [.int 2, .int 1, .int 1], .tup [.int 2, .int 1, .int 1], .tup [.int 1, .int 1, .int 1]], .tup [.tup [.int 2, .int 1, .int 1], .tup [.int 2, .int 1, .int 1], .tup [.int 2, .int 0, .int 0]], .tup [.tup [.int 2, .int 1, .int 1], .tup [.int 2, .int 1, .int 1], .tup [.int 2, .int 1, .int 0]], .tup [.tup [.int 2, .int 1, .int 1], .tup [.int 2, .int 1, .int 1], .tup [.int 2, .int 1, .int 1]], .tup [.tup [.int 2, .int 2, .int 0], .tup [.int 0, .int 0, .int 0], .tup [.int 0, .int 0, .int 0]], .tup [.tup [.int 2, .int 2, .int 0], .tup [.int 1, .int 0, .int 0], .tup [.int 0, .int 0, .int 0]], .tup [.tup [.int 2, .int 2, .int 0], .tup [.int 1, .int 0, .int 0], .tup [.int 1, .int 0, .int 0]], .tup [.tup [.int 2, .int 2, .int 0], .tup [.int 1, .int 1, .int 0], .tup [.int 0, .int 0, .int 0]], .tup [.tup [.int 2, .int 2, .int 0], .tup [.int 1, .int 1, .int 0], .tup [.int 1, .int 0, .int 0]], .tup [.tup [.int 2, .int 2, .int 0], .tup [.int 1, .int 1, .int 0], .tup [.int 1, .int 1, .int 0]], .tup [.tup [.int 2, .int 2, .int 0], .tup [.int 2, .int 0, .int 0], .tup [.int 0, .int 0, .int 0]], .tup [.tup [.int 2, .int 2, .int 0], .tup [.int 2, .int 0, .int 0], .tup [.int 1, .int 0, .int 0]], .tup [.tup [.int 2, .int 2, .int 0], .tup [.int 2, .int 0, .int 0], .tup [.int 2, .int 0, .int 0]], .tup [.tup [.int 2, .int 2, .int 0], .tup [.int 2, .int 1, .int 0], .tup [.int 0, .int 0, .int 0]]]
def lit3 : List D := [.tup [.tup [.int 2, .int 2, .int 0], .tup [.int 2, .int 1, .int 0], .tup [.int 1, .int 0, .int 0]], .tup [.tup [.int 2, .int 2, .int 0], .tup [.int 2, .int 1, .int 0], .tup [.int 1, .int 1, .int 0]], .tup [.tup [.int 2, .int 2, .int 0], .tup [.int 2, .int 1, .int 0], .tup [.int 2, .int 0, .int 0]], .tup [.tup [.int 2, .int 2, .int 0], .tup [.int 2, .int 1, .int 0], .tup [.int 2, .int 1, .int 0]], .tup [.tup [.int 2, .int 2, .int 0], .tup [.int 2, .int 2, .int 0], .tup [.int 0, .int 0, .int 0]], .tup [.tup [.int 2, .int 2, .int 0], .tup [.int 2, .int 2, .int 0], .tup [.int 1, .int 0, .int 0]], .tup [.tup [.int 2, .int 2, .int 0], .tup [.int 2, .int 2, .int 0], .tup [.int 1, .int 1, .int 0]], .tup [.tup [.int 2, .int 2, .int 0], .tup [.int 2, .int 2, .int 0], .tup [.int 2, .int 0, .int 0]], .tup [.tup [.int 2, .int 2, .int 0], .tup [.int 2, .int 2, .int 0], .tup [.int 2, .int 1, .int 0]], .tup [.tup [.int 2, .int 2, .int 0], .tup [.int 2, .int 2, .int 0], .tup [.int 2, .int 2, .int 0]], .tup [.tup [.int 2, .int 2, .int 1], .tup [.int 0, .int 0, .int 0], .tup [.int 0, .int 0, .int 0]], .tup [.tup [.int 2, .int 2, .int 1], .tup [.int 1, .int 0, .int 0], .tup [.int 0, .int 0, .int 0]], .tup [.tup [.int 2, .int 2, .int 1], .tup [.int 1, .int 0, .int 0], .tup [.int 1, .int 0, .int 0]], .tup [.tup [.int 2, .int 2, .int 1], .tup [.int 1, .int 1, .int 0], .tup [.int 0, .int 0, .int 0]], .tup [.tup [.int 2, .int 2, .int 1], .tup [.int 1, .int 1, .int 0], .tup [.int 1, .int 0, .int 0]], .tup [.tup [.int 2, .int 2, .int 1], .tup [.int 1, .int 1, .int 0], .tup [.int 1, .int 1, .int 0]], .tup [.tup [.int 2, .int 2, .int 1], .tup [.int 1, .int 1, .int 1], .tup [.int 0, .int 0, .int 0]], .tup [.tup [.int 2, .int 2, .int 1], .tup [.int 1, .int 1, .int 1], .tup [.int 1, .int 0, .int 0]], .tup [.tup [.int 2, .int 2, .int 1], .tup [.int 1, .int 1, .int 1], .tup [.int 1, .int 1, .int 0]], .tup [.tup [.int 2, .int 2, .int 1], .tup [.int 1, .int 1, .int 1], .tup [.int 1, .int 1, .int 1]], .tup [.tup [.int 2, .int 2, .int 1], .tup [.int 2, .int 0, .int 0], .tup [.int 0, .int 0, .int 0]], .tup [.tup [.int 2, .int 2, .int 1], .tup [.int 2, .int 0, .int 0], .tup [.int 1, .int 0, .int 0]], .tup [.tup [.int 2, .int 2, .int 1], .tup [.int 2, .int 0, .int 0], .tup [.int 2, .int 0, .int 0]], .tup [.tup [.int 2, .int 2, .int 1], .tup [.int 2, .int 1, .int 0], .tup [.int 0, .int 0, .int 0]], .tup [.tup [.int 2, .int 2, .int 1], .tup [.int 2, .int 1, .int 0], .tup [.int 1, .int 0, .int 0]]]
def lit4 : List D := [.tup [.tup [.int 2, .int 2, .int 1], .tup [.int 2, .int 1, .int 0], .tup [.int 1, .int 1, .int 0]], .tup [.tup [.int 2, .int 2, .int 1], .tup [.int 2, .int 1, .int 0], .tup [.int 2, .int 0, .int 0]], .tup [.tup [.int 2, .int 2, .int 1], .tup [.int 2, .int 1, .int 0], .tup [.int 2, .int 1, .int 0]], .tup [.tup [.int 2, .int 2, .int 1], .tup [.int 2, .int 1, .int 1], .tup [.int 0, .int 0, .int 0]], .tup [.tup [.int 2, .int 2, .int 1], .tup [.int 2, .int 1, .int 1], .tup [.int 1, .int 0, .int 0]], .tup [.tup [.int 2, .int 2, .int 1], .tup [.int 2, .int 1, .int 1], .tup [.int 1, .int 1, .int 0]], .tup [.tup [.int 2, .int 2, .int 1], .tup [.int 2, .int 1, .int 1], .tup [.int 1, .int 1, .int 1]], .tup [.tup [.int 2, .int 2, .int 1], .tup [.int 2, .int 1, .int 1], .tup [.int 2, .int 0, .int 0]], .tup [.tup [.int 2, .int 2, .int 1], .tup [.int 2, .int 1, .int 1], .tup [.int 2, .int 1, .int 0]], .tup [.tup [.int 2, .int 2, .int 1], .tup [.int 2, .int 1, .int 1], .tup [.int 2, .int 1, .int 1]], .tup [.tup [.int 2, .int 2, .int 1], .tup [.int 2, .int 2, .int 0], .tup [.int 0, .int 0, .int 0]], .tup [.tup [.int 2, .int 2, .int 1], .tup [.int 2, .int 2, .int 0], .tup [.int 1, .int 0, .int 0]], .tup [.tup [.int 2, .int 2, .int 1], .tup [.int 2, .int 2, .int 0], .tup [.int 1, .int 1, .int 0]], .tup [.tup [.int 2, .int 2, .int 1], .tup [.int 2, .int 2, .int 0], .tup [.int 2, .int 0, .int 0]], .tup [.tup [.int 2, .int 2, .int 1], .tup [.int 2, .int 2, .int 0], .tup [.int 2, .int 1, .int 0]], .tup [.tup [.int 2, .int 2, .int 1], .tup [.int 2, .int 2, .int 0], .tup [.int 2, .int 2, .int 0]], .tup [.tup [.int 2, .int 2, .int 1], .tup [.int 2, .int 2, .int 1], .tup [.int 0, .int 0, .int 0]], .tup [.tup [.int 2, .int 2, .int 1], .tup [.int 2, .int 2, .int 1], .tup [.int 1, .int 0, .int 0]], .tup [.tup [.int 2, .int 2, .int 1], .tup [.int 2, .int 2, .int 1], .tup [.int 1, .int 1, .int 0]], .tup [.tup [.int 2, .int 2, .int 1], .tup [.int 2, .int 2, .int 1], .tup [.int 1, .int 1, .int 1]], .tup [.tup [.int 2, .int 2, .int 1], .tup [.int 2, .int 2, .int 1], .tup [.int 2, .int 0, .int 0]], .tup [.tup [.int 2, .int 2, .int 1], .tup [.int 2, .int 2, .int 1], .tup [.int 2, .int 1, .int 0]], .tup [.tup [.int 2, .int 2, .int 1], .tup [.int 2, .int 2, .int 1], .tup [.int 2, .int 1, .int 1]], .tup [.tup [.int 2, .int 2, .int 1], .tup [.int 2, .int 2, .int 1], .tup [.int 2, .int 2, .int 0]], .tup [.tup [.int 2, .int 2, .int 1], .tup [.int 2, .int 2, .int 1], .tup [.int 2, .int 2, .int 1]]]
def lit5 : List D := [.tup [.tup [.int 2, .int 2, .int 2], .tup [.int 0, .int 0, .int 0], .tup [.int 0, .int 0, .int 0]], .tup [.tup [.int 2, .int 2, .int 2], .tup [.int 1, .int 0, .int 0], .tup [.int 0, .int 0, .int 0]], .tup [.tup [.int 2, .int 2, .int 2], .tup [.int 1, .int 0, .int 0], .tup [.int 1, .int 0, .int 0]], .tup [.tup [.int 2, .int 2, .int 2], .tup [.int 1, .int 1, .int 0], .tup [.int 0, .int 0, .int 0]], .tup [.tup [.int 2, .int 2, .int 2], .tup [.int 1, .int 1, .int 0], .tup [.int 1, .int 0, .int 0]], .tup [.tup [.int 2, .int 2, .int 2], .tup [.int 1, .int 1, .int 0], .tup [.int 1, .int 1, .int 0]], .tup [.tup [.int 2, .int 2, .int 2], .tup [.int 1, .int 1, .int 1], .tup [.int 0, .int 0, .int 0]], .tup [.tup [.int 2, .int 2, .int 2], .tup [.int 1, .int 1, .int 1], .tup [.int 1, .int 0, .int 0]], .tup [.tup [.int 2, .int 2, .int 2], .tup [.int 1, .int 1, .int 1], .tup [.int 1, .int 1, .int 0]], .tup [.tup [.int 2, .int 2, .int 2], .tup [.int 1, .int 1, .int 1], .tup [.int 1, .int 1, .int 1]], .tup [.tup [.int 2, .int 2, .int 2], .tup [.int 2, .int 0, .int 0], .tup [.int 0, .int 0, .int 0]], .tup [.tup [.int 2, .int 2, .int 2], .tup [.int 2, .int 0, .int 0], .tup [.int 1, .int 0, .int 0]], .tup [.tup [.int 2, .int 2, .int 2], .tup [.int 2, .int 0, .int 0], .tup [.int 2, .int 0, .int 0]], .tup [.tup [.int 2, .int 2, .int 2], .tup [.int 2, .int 1, .int 0], .tup [.int 0, .int 0, .int 0]], .tup [.tup [.int 2, .int 2, .int 2], .tup [.int 2, .int 1, .int 0], .tup [.int 1, .int 0, .int 0]], .tup [.tup [.int 2, .int 2, .int 2], .tup [.int 2, .int 1, .int 0], .tup [.int 1, .int 1, .int 0]], .tup [.tup [.int 2, .int 2, .int 2], .tup [.int 2, .int 1, .int 0], .tup [.int 2, .int 0, .int 0]], .tup [.tup [.int 2, .int 2, .int 2], .tup [.int 2, .int 1, .int 0], .tup [.int 2, .int 1, .int 0]], .tup [.tup [.int 2, .int 2, .int 2], .tup [.int 2, .int 1, .int 1], .tup [.int 0, .int 0, .int 0]], .tup [.tup [.int 2, .int 2, .int 2], .tup [.int 2, .int 1, .int 1], .tup [.int 1, .int 0, .int 0]], .tup [.tup [.int 2, .int 2, .int 2], .tup [.int 2, .int 1, .int 1], .tup [.int 1, .int 1, .int 0]], .tup [.tup [.int 2, .int 2, .int 2], .tup [.int 2, .int 1, .int 1], .tup [.int 1, .int 1, .int 1]], .tup [.tup [.int 2, .int 2, .int 2], .tup [.int 2, .int 1, .int 1], .tup [.int 2, .int 0, .int 0]], .tup [.tup [.int 2, .int 2, .int 2], .tup [.int 2, .int 1, .int 1], .tup [.int 2, .int 1, .int 0]], .tup [.tup [.int 2, .int 2, .int 2], .tup [.int 2, .int 1, .int 1], .tup [.int 2, .int 1, .int 1]]]
def lit6 : List D := [.tup [.tup [.int 2, .int 2, .int 2], .tup [.int 2, .int 2, .int 0], .tup [.int 0, .int 0, .int 0]], .tup [.tup [.int 2, .int 2, .int 2], .tup [.int 2, .int 2, .int 0], .tup [.int 1, .int 0, .int 0]], .tup [.tup [.int 2, .int 2, .int 2], .tup [.int 2, .int 2, .int 0], .tup [.int 1, .int 1, .int 0]], .tup [.tup [.int 2, .int 2, .int 2], .tup [.int 2, .int 2, .int 0], .tup [.int 2, .int 0, .int 0]], .tup [.tup [.int 2, .int 2, .int 2], .tup [.int 2, .int 2, .int 0], .tup [.int 2, .int 1, .int 0]], .tup [.tup [.int 2, .int 2, .int 2], .tup [.int 2, .int 2, .int 0], .tup [.int 2, .int 2, .int 0]], .tup [.tup [.int 2, .int 2, .int 2], .tup [.int 2, .int 2, .int 1], .tup [.int 0, .int 0, .int 0]], .tup [.tup [.int 2, .int 2, .int 2], .tup [.int 2, .int 2, .int 1], .tup [.int 1, .int 0, .int 0]], .tup [.tup [.int 2, .int 2, .int 2], .tup [.int 2, .int 2, .int 1], .tup [.int 1, .int 1, .int 0]], .tup [.tup [.int 2, .int 2, .int 2], .tup [.int 2, .int 2, .int 1], .tup [.int 1, .int 1, .int 1]], .tup [.tup [.int 2, .int 2, .int 2], .tup [.int 2, .int 2, .int 1], .tup [.int 2, .int 0, .int 0]], .tup [.tup [.int 2, .int 2, .int 2], .tup [.int 2, .int 2, .int 1], .tup [.int 2, .int 1, .int 0]], .tup [.tup [.int 2, .int 2, .int 2], .tup [.int 2, .int 2, .int 1], .tup [.int 2, .int 1, .int 1]], .tup [.tup [.int 2, .int 2, .int 2], .tup [.int 2, .int 2, .int 1], .tup [.int 2, .int 2, .int 0]], .tup [.tup [.int 2, .int 2, .int 2], .tup [.int 2, .int 2, .int 1], .tup [.int 2, .int 2, .int 1]], .tup [.tup [.int 2, .int 2, .int 2], .tup [.int 2, .int 2, .int 2], .tup [.int 0, .int 0, .int 0]], .tup [.tup [.int 2, .int 2, .int 2], .tup [.int 2, .int 2, .int 2], .tup [.int 1, .int 0, .int 0]], .tup [.tup [.int 2, .int 2, .int 2], .tup [.int 2, .int 2, .int 2], .tup [.int 1, .int 1, .int 0]], .tup [.tup [.int 2, .int 2, .int 2], .tup [.int 2, .int 2, .int 2], .tup [.int 1, .int 1, .int 1]], .tup [.tup [.int 2, .int 2, .int 2], .tup [.int 2, .int 2, .int 2], .tup [.int 2, .int 0, .int 0]], .tup [.tup [.int 2, .int 2, .int 2], .tup [.int 2, .int 2, .int 2], .tup [.int 2, .int 1, .int 0]], .tup [.tup [.int 2, .int 2, .int 2], .tup [.int 2, .int 2, .int 2], .tup [.int 2, .int 1, .int 1]], .tup [.tup [.int 2, .int 2, .int 2], .tup [.int 2, .int 2, .int 2], .tup [.int 2, .int 2, .int 0]], .tup [.tup [.int 2, .int 2, .int 2], .tup [.int 2, .int 2, .int 2], .tup [.int 2, .int 2, .int 1]], .tup [.tup [.int 2, .int 2, .int 2], .tup [.int 2, .int 2, .int 2], .tup [.int 2, .int 2, .int 2]]]
def lit : List D := lit0 ++ (lit1 ++ (lit2 ++ (lit3 ++ (lit4 ++ (lit5 ++ (lit6))))))
def litS : List D := [.tup [.tup [.int 0, .int 0, .int 0], .tup [.int 0, .int 0, .int 0], .tup [.int 0, .int 0, .int 0]], .tup [.tup [.int 1, .int 0, .int 0], .tup [.int 0, .int 0, .int 0], .tup [.int 0, .int 0, .int 0]], .tup [.tup [.int 1, .int 1, .int 0], .tup [.int 1, .int 0, .int 0], .tup [.int 0, .int 0, .int 0]], .tup [.tup [.int 1, .int 1, .int 0], .tup [.int 1, .int 1, .int 0], .tup [.int 0, .int 0, .int 0]], .tup [.tup [.int 1, .int 1, .int 1], .tup [.int 1, .int 0, .int 0], .tup [.int 1, .int 0, .int 0]], .tup [.tup [.int 1, .int 1, .int 1], .tup [.int 1, .int 1, .int 0], .tup [.int 1, .int 0, .int 0]], .tup [.tup [.int 1, .int 1, .int 1], .tup [.int 1, .int 1, .int 1], .tup [.int 1, .int 1, .int 0]], .tup [.tup [.int 1, .int 1, .int 1], .tup [.int 1, .int 1, .int 1], .tup [.int 1, .int 1, .int 1]], .tup [.tup [.int 2, .int 0, .int 0], .tup [.int 0, .int 0, .int 0], .tup [.int 0, .int 0, .int 0]], .tup [.tup [.int 2, .int 1, .int 0], .tup [.int 1, .int 0, .int 0], .tup [.int 0, .int 0, .int 0]], .tup [.tup [.int 2, .int 1, .int 0], .tup [.int 1, .int 1, .int 0], .tup [.int 0, .int 0, .int 0]], .tup [.tup [.int 2, .int 1, .int 1], .tup [.int 1, .int 0, .int 0], .tup [.int 1, .int 0, .int 0]], .tup [.tup [.int 2, .int 1, .int 1], .tup [.int 1, .int 1, .int 0], .tup [.int 1, .int 0, .int 0]], .tup [.tup [.int 2, .int 1, .int 1], .tup [.int 1, .int 1, .int 1], .tup [.int 1, .int 1, .int 0]], .tup [.tup [.int 2, .int 1, .int 1], .tup [.int 1, .int 1, .int 1], .tup [.int 1, .int 1, .int 1]], .tup [.tup [.int 2, .int 2, .int 0], .tup [.int 2, .int 0, .int 0], .tup [.int 0, .int 0, .int 0]], .tup [.tup [.int 2, .int 2, .int 0], .tup [.int 2, .int 1, .int 0], .tup [.int 0, .int 0, .int 0]], .tup [.tup [.int 2, .int 2, .int 0], .tup [.int 2, .int 2, .int 0], .tup [.int 0, .int 0, .int 0]], .tup [.tup [.int 2, .int 2, .int 1], .tup [.int 2, .int 0, .int 0], .tup [.int 1, .int 0, .int 0]], .tup [.tup [.int 2, .int 2, .int 1], .tup [.int 2, .int 1, .int 0], .tup [.int 1, .int 0, .int 0]], .tup [.tup [.int 2, .int 2, .int 1], .tup [.int 2, .int 1, .int 1], .tup [.int 1, .int 1, .int 0]], .tup [.tup [.int 2, .int 2, .int 1], .tup [.int 2, .int 1, .int 1], .tup [.int 1, .int 1, .int 1]], .tup [.tup [.int 2, .int 2, .int 1], .tup [.int 2, .int 2, .int 0], .tup [.int 1, .int 0, .int 0]], .tup [.tup [.int 2, .int 2, .int 1], .tup [.int 2, .int 2, .int 1], .tup [.int 1, .int 1, .int 0]], .tup [.tup [.int 2, .int 2, .int 1], .tup [.int 2, .int 2, .int 1], .tup [.int 1, .int 1, .int 1]], .tup [.tup [.int 2, .int 2, .int 2], .tup [.int 2, .int 0, .int 0], .tup [.int 2, .int 0, .int 0]], .tup [.tup [.int 2, .int 2, .int 2], .tup [.int 2, .int 1, .int 0], .tup [.int 2, .int 0, .int 0]], .tup [.tup [.int 2, .int 2, .int 2], .tup [.int 2, .int 1, .int 1], .tup [.int 2, .int 1, .int 0]], .tup [.tup [.int 2, .int 2, .int 2], .tup [.int 2, .int 1, .int 1], .tup [.int 2, .int 1, .int 1]], .tup [.tup [.int 2, .int 2, .int 2], .tup [.int 2, .int 2, .int 0], .tup [.int 2, .int 0, .int 0]], .tup [.tup [.int 2, .int 2, .int 2], .tup [.int 2, .int 2, .int 1], .tup [.int 2, .int 1, .int 0]], .tup [.tup [.int 2, .int 2, .int 2], .tup [.int 2, .int 2, .int 1], .tup [.int 2, .int 1, .int 1]], .tup [.tup [.int 2, .int 2, .int 2], .tup [.int 2, .int 2, .int 2], .tup [.int 2, .int 2, .int 0]], .tup [.tup [.int 2, .int 2, .int 2], .tup [.int 2, .int 2, .int 2], .tup [.int 2, .int 2, .int 1]], .tup [.tup [.int 2, .int 2, .int 2], .tup [.int 2, .int 2, .int 2], .tup [.int 2, .int 2, .int 2]]]
theorem hp32 : F_ulaw_heaps [.int 3, .int 3, .int 2] = some (.lst lit, [.int 3, .int 3, .int 2]) := by intros; kernel_rfl
def pS (row : D) : Bool := match F_ulaw_swapped [row] with
  | some (d, _) => D.eqv d row
  | none => false
def pC (row : D) : Bool := match F_ulaw_lacks [row, .int 2] with
  | some (e, _) => (match F_ulaw_swapped [e] with
    | some (d, _) => D.eqv d row
    | none => false)
  | none => false
theorem t7_0 : ∀ sc st x2 x3 x5 x7 x8 x9 x10 x11 x12 x13 x14 x15 x16 : D, lit0.map (fun row => (tstF (opF eqD [odE [] 0 (callF [odE [] 0 (rd 12)] F_ulaw_swapped), odS [0, 1, 0, 0, 0, 0, 0, 0, 0, 0, 0, 0, 0, 0, 0, 0, 0] 12])) [sc, st, x2, x3, .int 2, x5, .int 3, x7, x8, x9, x10, x11, row, x13, x14, x15, x16]) = lit0.map (fun row => some (pS row, [sc, st, x2, x3, .int 2, x5, .int 3, x7, x8, x9, x10, x11, row, x13, x14, x15, x16])) := by intros; kernel_rfl
theorem t9_0 : ∀ sc st x2 x3 x5 x7 x8 x9 x10 x11 x12 x13 x14 x15 x16 : D, lit0.map (fun row => (tstF (opF eqD [odE [] 0 (callF [odE [] 0 (callF [odE [] 0 (rd 12), odE [] 0 (rd 4)] F_ulaw_lacks)] F_ulaw_swapped), odS [0, 1, 0, 0, 0, 0, 0, 0, 0, 0, 0, 0, 0, 0, 0, 0, 0] 12])) [sc, st, x2, x3, .int 2, x5, .int 3, x7, x8, x9, x10, x11, row, x13, x14, x15, x16]) = lit0.map (fun row => some (pC row, [sc, st, x2, x3, .int 2, x5, .int 3, x7, x8, x9, x10, x11, row, x13, x14, x15, x16])) := by intros; kernel_rfl
theorem rdy_0 : ∀ sc st x2 x3 x5 x7 x8 x9 x10 x11 x12 x13 x14 x15 x16 : D, lit0.map (fun row => rd 12 [sc, st, x2, x3, .int 2, x5, .int 3, x7, x8, x9, x10, x11, row, x13, x14, x15, x16]) = lit0.map (fun row => some (row, [sc, st, x2, x3, .int 2, x5, .int 3, x7, x8, x9, x10, x11, row, x13, x14, x15, x16])) := by intros; kernel_rfl
theorem t7_1 : ∀ sc st x2 x3 x5 x7 x8 x9 x10 x11 x12 x13 x14 x15 x16 : D, lit1.map (fun row => (tstF (opF eqD [odE [] 0 (callF [odE [] 0 (rd 12)] F_ulaw_swapped), odS [0, 1, 0, 0, 0, 0, 0, 0, 0, 0, 0, 0, 0, 0, 0, 0, 0] 12])) [sc, st, x2, x3, .int 2, x5, .int 3, x7, x8, x9, x10, x11, row, x13, x14, x15, x16]) = lit1.map (fun row => some (pS row, [sc, st, x2, x3, .int 2, x5, .int 3, x7, x8, x9, x10, x11, row, x13, x14, x15, x16])) := by intros; kernel_rfl
theorem t9_1 : ∀ sc st x2 x3 x5 x7 x8 x9 x10 x11 x12 x13 x14 x15 x16 : D, lit1.map (fun row => (tstF (opF eqD [odE [] 0 (callF [odE [] 0 (callF [odE [] 0 (rd 12), odE [] 0 (rd 4)] F_ulaw_lacks)] F_ulaw_swapped), odS [0, 1, 0, 0, 0, 0, 0, 0, 0, 0, 0, 0, 0, 0, 0, 0, 0] 12])) [sc, st, x2, x3, .int 2, x5, .int 3, x7, x8, x9, x10, x11, row, x13, x14, x15, x16]) = lit1.map (fun row => some (pC row, [sc, st, x2, x3, .int 2, x5, .int 3, x7, x8, x9, x10, x11, row, x13, x14, x15, x16])) := by intros; kernel_rfl
theorem rdy_1 : ∀ sc st x2 x3 x5 x7 x8 x9 x10 x11 x12 x13 x14 x15 x16 : D, lit1.map (fun row => rd 12 [sc, st, x2, x3, .int 2, x5, .int 3, x7, x8, x9, x10, x11, row, x13, x14, x15, x16]) = lit1.map (fun row => some (row, [sc, st, x2, x3, .int 2, x5, .int 3, x7, x8, x9, x10, x11, row, x13, x14, x15, x16])) := by intros; kernel_rfl
theorem t7_2 : ∀ sc st x2 x3 x5 x7 x8 x9 x10 x11 x12 x13 x14 x15 x16 : D, lit2.map (fun row => (tstF (opF eqD [odE [] 0 (callF [odE [] 0 (rd 12)] F_ulaw_swapped), odS [0, 1, 0, 0, 0, 0, 0, 0, 0, 0, 0, 0, 0, 0, 0, 0, 0] 12])) [sc, st, x2, x3, .int 2, x5, .int 3, x7, x8, x9, x10, x11, row, x13, x14, x15, x16]) = lit2.map (fun row => some (pS row, [sc, st, x2, x3, .int 2, x5, .int 3, x7, x8, x9, x10, x11, row, x13, x14, x15, x16])) := by intros; kernel_rfl
theorem t9_2 : ∀ sc st x2 x3 x5 x7 x8 x9 x10 x11 x12 x13 x14 x15 x16 : D, lit2.map (fun row => (tstF (opF eqD [odE [] 0 (callF [odE [] 0 (callF [odE [] 0 (rd 12), odE [] 0 (rd 4)] F_ulaw_lacks)] F_ulaw_swapped), odS [0, 1, 0, 0, 0, 0, 0, 0, 0, 0, 0, 0, 0, 0, 0, 0, 0] 12])) [sc, st, x2, x3, .int 2, x5, .int 3, x7, x8, x9, x10, x11, row, x13, x14, x15, x16]) = lit2.map (fun row => some (pC row, [sc, st, x2, x3, .int 2, x5, .int 3, x7, x8, x9, x10, x11, row, x13, x14, x15, x16])) := by intros; kernel_rfl
theorem rdy_2 : ∀ sc st x2 x3 x5 x7 x8 x9 x10 x11 x12 x13 x14 x15 x16 : D, lit2.map (fun row => rd 12 [sc, st, x2, x3, .int 2, x5, .int 3, x7, x8, x9, x10, x11, row, x13, x14, x15, x16]) = lit2.map (fun row => some (row, [sc, st, x2, x3, .int 2, x5, .int 3, x7, x8, x9, x10, x11, row, x13, x14, x15, x16])) := by intros; kernel_rfl
theorem t7_3 : ∀ sc st x2 x3 x5 x7 x8 x9 x10 x11 x12 x13 x14 x15 x16 : D, lit3.map (fun row => (tstF (opF eqD [odE [] 0 (callF [odE [] 0 (rd 12)] F_ulaw_swapped), odS [0, 1, 0, 0, 0, 0, 0, 0, 0, 0, 0, 0, 0, 0, 0, 0, 0] 12])) [sc, st, x2, x3, .int 2, x5, .int 3, x7, x8, x9, x10, x11, row, x13, x14, x15, x16]) = lit3.map (fun row => some (pS row, [sc, st, x2, x3, .int 2, x5, .int 3, x7, x8, x9, x10, x11, row, x13, x14, x15, x16])) := by intros; kernel_rfl
theorem t9_3 : ∀ sc st x2 x3 x5 x7 x8 x9 x10 x11 x12 x13 x14 x15 x16 : D, lit3.map (fun row => (tstF (opF eqD [odE [] 0 (callF [odE [] 0 (callF [odE [] 0 (rd 12), odE [] 0 (rd 4)] F_ulaw_lacks)] F_ulaw_swapped), odS [0, 1, 0, 0, 0, 0, 0, 0, 0, 0, 0, 0, 0, 0, 0, 0, 0] 12])) [sc, st, x2, x3, .int 2, x5, .int 3, x7, x8, x9, x10, x11, row, x13, x14, x15, x16]) = lit3.map (fun row => some (pC row, [sc, st, x2, x3, .int 2, x5, .int 3, x7, x8, x9, x10, x11, row, x13, x14, x15, x16])) := by intros; kernel_rfl
theorem rdy_3 : ∀ sc st x2 x3 x5 x7 x8 x9 x10 x11 x12 x13 x14 x15 x16 : D, lit3.map (fun row => rd 12 [sc, st, x2, x3, .int 2, x5, .int 3, x7, x8, x9, x10, x11, row, x13, x14, x15, x16]) = lit3.map (fun row => some (row, [sc, st, x2, x3, .int 2, x5, .int 3, x7, x8, x9, x10, x11, row, x13, x14, x15, x16])) := by intros; kernel_rfl
theorem t7_4 : ∀ sc st x2 x3 x5 x7 x8 x9 x10 x11 x12 x13 x14 x15 x16 : D, lit4.map (fun row => (tstF (opF eqD [odE [] 0 (callF [odE [] 0 (rd 12)] F_ulaw_swapped), odS [0, 1, 0, 0, 0, 0, 0, 0, 0, 0, 0, 0, 0, 0, 0, 0, 0] 12])) [sc, st, x2, x3, .int 2, x5, .int 3, x7, x8, x9, x10, x11, row, x13, x14, x15, x16]) = lit4.map (fun row => some (pS row, [sc, st, x2, x3, .int 2, x5, .int 3, x7, x8, x9, x10, x11, row, x13, x14, x15, x16])) := by intros; kernel_rfl
theorem t9_4 : ∀ sc st x2 x3 x5 x7 x8 x9 x10 x11 x12 x13 x14 x15 x16 : D, lit4.map (fun row => (tstF (opF eqD [odE [] 0 (callF [odE [] 0 (callF [odE [] 0 (rd 12), odE [] 0 (rd 4)] F_ulaw_lacks)] F_ulaw_swapped), odS [0, 1, 0, 0, 0, 0, 0, 0, 0, 0, 0, 0, 0, 0, 0, 0, 0] 12])) [sc, st, x2, x3, .int 2, x5, .int 3, x7, x8, x9, x10, x11, row, x13, x14, x15, x16]) = lit4.map (fun row => some (pC row, [sc, st, x2, x3, .int 2, x5, .int 3, x7, x8, x9, x10, x11, row, x13, x14, x15, x16])) := by intros; kernel_rfl
theorem rdy_4 : ∀ sc st x2 x3 x5 x7 x8 x9 x10 x11 x12 x13 x14 x15 x16 : D, lit4.map (fun row => rd 12 [sc, st, x2, x3, .int 2, x5, .int 3, x7, x8, x9, x10, x11, row, x13, x14, x15, x16]) = lit4.map (fun row => some (row, [sc, st, x2, x3, .int 2, x5, .int 3, x7, x8, x9, x10, x11, row, x13, x14, x15, x16])) := by intros; kernel_rfl
theorem t7_5 : ∀ sc st x2 x3 x5 x7 x8 x9 x10 x11 x12 x13 x14 x15 x16 : D, lit5.map (fun row => (tstF (opF eqD [odE [] 0 (callF [odE [] 0 (rd 12)] F_ulaw_swapped), odS [0, 1, 0, 0, 0, 0, 0, 0, 0, 0, 0, 0, 0, 0, 0, 0, 0] 12])) [sc, st, x2, x3, .int 2, x5, .int 3, x7, x8, x9, x10, x11, row, x13, x14, x15, x16]) = lit5.map (fun row => some (pS row, [sc, st, x2, x3, .int 2, x5, .int 3, x7, x8, x9, x10, x11, row, x13, x14, x15, x16])) := by intros; kernel_rfl
theorem t9_5 : ∀ sc st x2 x3 x5 x7 x8 x9 x10 x11 x12 x13 x14 x15 x16 : D, lit5.map (fun row => (tstF (opF eqD [odE [] 0 (callF [odE [] 0 (callF [odE [] 0 (rd 12), odE [] 0 (rd 4)] F_ulaw_lacks)] F_ulaw_swapped), odS [0, 1, 0, 0, 0, 0, 0, 0, 0, 0, 0, 0, 0, 0, 0, 0, 0] 12])) [sc, st, x2, x3, .int 2, x5, .int 3, x7, x8, x9, x10, x11, row, x13, x14, x15, x16]) = lit5.map (fun row => some (pC row, [sc, st, x2, x3, .int 2, x5, .int 3, x7, x8, x9, x10, x11, row, x13, x14, x15, x16])) := by intros; kernel_rfl
theorem rdy_5 : ∀ sc st x2 x3 x5 x7 x8 x9 x10 x11 x12 x13 x14 x15 x16 : D, lit5.map (fun row => rd 12 [sc, st, x2, x3, .int 2, x5, .int 3, x7, x8, x9, x10, x11, row, x13, x14, x15, x16]) = lit5.map (fun row => some (row, [sc, st, x2, x3, .int 2, x5, .int 3, x7, x8, x9, x10, x11, row, x13, x14, x15, x16])) := by intros; kernel_rfl
theorem t7_6 : ∀ sc st x2 x3 x5 x7 x8 x9 x10 x11 x12 x13 x14 x15 x16 : D, lit6.map (fun row => (tstF (opF eqD [odE [] 0 (callF [odE [] 0 (rd 12)] F_ulaw_swapped), odS [0, 1, 0, 0, 0, 0, 0, 0, 0, 0, 0, 0, 0, 0, 0, 0, 0] 12])) [sc, st, x2, x3, .int 2, x5, .int 3, x7, x8, x9, x10, x11, row, x13, x14, x15, x16]) = lit6.map (fun row => some (pS row, [sc, st, x2, x3, .int 2, x5, .int 3, x7, x8, x9, x10, x11, row, x13, x14, x15, x16])) := by intros; kernel_rfl
theorem t9_6 : ∀ sc st x2 x3 x5 x7 x8 x9 x10 x11 x12 x13 x14 x15 x16 : D, lit6.map (fun row => (tstF (opF eqD [odE [] 0 (callF [odE [] 0 (callF [odE [] 0 (rd 12), odE [] 0 (rd 4)] F_ulaw_lacks)] F_ulaw_swapped), odS [0, 1, 0, 0, 0, 0, 0, 0, 0, 0, 0, 0, 0, 0, 0, 0, 0] 12])) [sc, st, x2, x3, .int 2, x5, .int 3, x7, x8, x9, x10, x11, row, x13, x14, x15, x16]) = lit6.map (fun row => some (pC row, [sc, st, x2, x3, .int 2, x5, .int 3, x7, x8, x9, x10, x11, row, x13, x14, x15, x16])) := by intros; kernel_rfl
theorem rdy_6 : ∀ sc st x2 x3 x5 x7 x8 x9 x10 x11 x12 x13 x14 x15 x16 : D, lit6.map (fun row => rd 12 [sc, st, x2, x3, .int 2, x5, .int 3, x7, x8, x9, x10, x11, row, x13, x14, x15, x16]) = lit6.map (fun row => some (row, [sc, st, x2, x3, .int 2, x5, .int 3, x7, x8, x9, x10, x11, row, x13, x14, x15, x16])) := by intros; kernel_rfl
theorem fS : lit.filter pS = litS := by kernel_rfl
theorem fC : (lit.filter pC).length = 5 := by kernel_rfl
theorem l8_32 : ∀ sc st x2 x3 x5 x7 x8 x9 x10 x11 x12 x13 x14 x15 x16 : D, L8 [sc, st, x2, x3, .int 2, x5, .int 3, .lst litS, x8, x9, x10, x11, x12, x13, x14, x15, x16] = some (.nx [sc, st, x2, x3, .int 2, x5, .int 3, .lst litS, x8, x9, x10, x11, x12, x13, x14, x15, x16]) := by intros; kernel_rfl
theorem lit_mem {p : D → Prop} (h0 : ∀ x ∈ lit0, p x) (h1 : ∀ x ∈ lit1, p x) (h2 : ∀ x ∈ lit2, p x) (h3 : ∀ x ∈ lit3, p x) (h4 : ∀ x ∈ lit4, p x) (h5 : ∀ x ∈ lit5, p x) (h6 : ∀ x ∈ lit6, p x) : ∀ x ∈ lit, p x := by
  intro x h
  unfold lit at h
  simp only [List.mem_append] at h
  rcases h with h | h | h | h | h | h | h
  · exact h0 x h
  · exact h1 x h
  · exact h2 x h
  · exact h3 x h
  · exact h4 x h
  · exact h5 x h
  · exact h6 x h
theorem t7_all (sc st x2 x3 x5 x7 x8 x9 x10 x11 x12 x13 x14 x15 x16 : D) : ∀ row ∈ lit, (tstF (opF eqD [odE [] 0 (callF [odE [] 0 (rd 12)] F_ulaw_swapped), odS [0, 1, 0, 0, 0, 0, 0, 0, 0, 0, 0, 0, 0, 0, 0, 0, 0] 12])) [sc, st, x2, x3, .int 2, x5, .int 3, x7, x8, x9, x10, x11, row, x13, x14, x15, x16] = some (pS row, [sc, st, x2, x3, .int 2, x5, .int 3, x7, x8, x9, x10, x11, row, x13, x14, x15, x16]) :=
  lit_mem (List.map_inj_left.mp (t7_0 sc st x2 x3 x5 x7 x8 x9 x10 x11 x12 x13 x14 x15 x16)) (List.map_inj_left.mp (t7_1 sc st x2 x3 x5 x7 x8 x9 x10 x11 x12 x13 x14 x15 x16)) (List.map_inj_left.mp (t7_2 sc st x2 x3 x5 x7 x8 x9 x10 x11 x12 x13 x14 x15 x16)) (List.map_inj_left.mp (t7_3 sc st x2 x3 x5 x7 x8 x9 x10 x11 x12 x13 x14 x15 x16)) (List.map_inj_left.mp (t7_4 sc st x2 x3 x5 x7 x8 x9 x10 x11 x12 x13 x14 x15 x16)) (List.map_inj_left.mp (t7_5 sc st x2 x3 x5 x7 x8 x9 x10 x11 x12 x13 x14 x15 x16)) (List.map_inj_left.mp (t7_6 sc st x2 x3 x5 x7 x8 x9 x10 x11 x12 x13 x14 x15 x16))
theorem t9_all (sc st x2 x3 x5 x7 x8 x9 x10 x11 x12 x13 x14 x15 x16 : D) : ∀ row ∈ lit, (tstF (opF eqD [odE [] 0 (callF [odE [] 0 (callF [odE [] 0 (rd 12), odE [] 0 (rd 4)] F_ulaw_lacks)] F_ulaw_swapped), odS [0, 1, 0, 0, 0, 0, 0, 0, 0, 0, 0, 0, 0, 0, 0, 0, 0] 12])) [sc, st, x2, x3, .int 2, x5, .int 3, x7, x8, x9, x10, x11, row, x13, x14, x15, x16] = some (pC row, [sc, st, x2, x3, .int 2, x5, .int 3, x7, x8, x9, x10, x11, row, x13, x14, x15, x16]) :=
  lit_mem (List.map_inj_left.mp (t9_0 sc st x2 x3 x5 x7 x8 x9 x10 x11 x12 x13 x14 x15 x16)) (List.map_inj_left.mp (t9_1 sc st x2 x3 x5 x7 x8 x9 x10 x11 x12 x13 x14 x15 x16)) (List.map_inj_left.mp (t9_2 sc st x2 x3 x5 x7 x8 x9 x10 x11 x12 x13 x14 x15 x16)) (List.map_inj_left.mp (t9_3 sc st x2 x3 x5 x7 x8 x9 x10 x11 x12 x13 x14 x15 x16)) (List.map_inj_left.mp (t9_4 sc st x2 x3 x5 x7 x8 x9 x10 x11 x12 x13 x14 x15 x16)) (List.map_inj_left.mp (t9_5 sc st x2 x3 x5 x7 x8 x9 x10 x11 x12 x13 x14 x15 x16)) (List.map_inj_left.mp (t9_6 sc st x2 x3 x5 x7 x8 x9 x10 x11 x12 x13 x14 x15 x16))
theorem rdy_all (sc st x2 x3 x5 x7 x8 x9 x10 x11 x12 x13 x14 x15 x16 : D) : ∀ row ∈ lit, rd 12 [sc, st, x2, x3, .int 2, x5, .int 3, x7, x8, x9, x10, x11, row, x13, x14, x15, x16] = some (row, [sc, st, x2, x3, .int 2, x5, .int 3, x7, x8, x9, x10, x11, row, x13, x14, x15, x16]) :=
  lit_mem (List.map_inj_left.mp (rdy_0 sc st x2 x3 x5 x7 x8 x9 x10 x11 x12 x13 x14 x15 x16)) (List.map_inj_left.mp (rdy_1 sc st x2 x3 x5 x7 x8 x9 x10 x11 x12 x13 x14 x15 x16)) (List.map_inj_left.mp (rdy_2 sc st x2 x3 x5 x7 x8 x9 x10 x11 x12 x13 x14 x15 x16)) (List.map_inj_left.mp (rdy_3 sc st x2 x3 x5 x7 x8 x9 x10 x11 x12 x13 x14 x15 x16)) (List.map_inj_left.mp (rdy_4 sc st x2 x3 x5 x7 x8 x9 x10 x11 x12 x13 x14 x15 x16)) (List.map_inj_left.mp (rdy_5 sc st x2 x3 x5 x7 x8 x9 x10 x11 x12 x13 x14 x15 x16)) (List.map_inj_left.mp (rdy_6 sc st x2 x3 x5 x7 x8 x9 x10 x11 x12 x13 x14 x15 x16))
theorem lit_le : lit.length ≤ sizeLine := by
  have e : lit.length = 175 := by kernel_rfl
  rw [e]; decide
theorem c7_ok (sc st x2 x3 x7 x8 x9 x10 x11 x12 x13 x14 x15 x16 : D) (h12 : x12 ≠ .und ∨ True) : lcF (clF (seqSrc (rd 5)) [12] (tgN 12) (tstF (opF eqD [odE [] 0 (callF [odE [] 0 (rd 12)] F_ulaw_swapped), odS [0, 1, 0, 0, 0, 0, 0, 0, 0, 0, 0, 0, 0, 0, 0, 0, 0] 12])) (oneF (rd 12))) [sc, st, x2, x3, .int 2, .lst lit, .int 3, x7, x8, x9, x10, x11, x12, x13, x14, x15, x16] = some (.lst (lit.filter pS), [sc, st, x2, x3, .int 2, .lst lit, .int 3, x7, x8, x9, x10, x11, x12, x13, x14, x15, x16]) := by
  have h := lc_if (xs := lit) (e := id) (src := seqSrc (rd 5)) (vs := [12]) (m := tgN 12) (t := (tstF (opF eqD [odE [] 0 (callF [odE [] 0 (rd 12)] F_ulaw_swapped), odS [0, 1, 0, 0, 0, 0, 0, 0, 0, 0, 0, 0, 0, 0, 0, 0, 0] 12]))) (el := rd 12) (ρ := [sc, st, x2, x3, .int 2, .lst lit, .int 3, x7, x8, x9, x10, x11, x12, x13, x14, x15, x16]) (fun row => [sc, st, x2, x3, .int 2, .lst lit, .int 3, x7, x8, x9, x10, x11, row, x13, x14, x15, x16]) pS id (by rw [List.map_id]; rfl) (fun x _ => rfl) (t7_all _ _ _ _ _ _ _ _ _ _ x12 _ _ _ _) (fun x hx _ => rdy_all _ _ _ _ _ _ _ _ _ _ x12 _ _ _ _ x hx) (fun x _ => rfl) rfl lit_le
  rw [List.map_id] at h
  exact h
theorem c9_ok (sc st x2 x3 x7 x8 x9 x10 x11 x12 x13 x14 x15 x16 : D) (h12 : x12 ≠ .und ∨ True) : lcF (clF (seqSrc (rd 5)) [12] (tgN 12) (tstF (opF eqD [odE [] 0 (callF [odE [] 0 (callF [odE [] 0 (rd 12), odE [] 0 (rd 4)] F_ulaw_lacks)] F_ulaw_swapped), odS [0, 1, 0, 0, 0, 0, 0, 0, 0, 0, 0, 0, 0, 0, 0, 0, 0] 12])) (oneF (rd 12))) [sc, st, x2, x3, .int 2, .lst lit, .int 3, x7, x8, x9, x10, x11, x12, x13, x14, x15, x16] = some (.lst (lit.filter pC), [sc, st, x2, x3, .int 2, .lst lit, .int 3, x7, x8, x9, x10, x11, x12, x13, x14, x15, x16]) := by
  have h := lc_if (xs := lit) (e := id) (src := seqSrc (rd 5)) (vs := [12]) (m := tgN 12) (t := (tstF (opF eqD [odE [] 0 (callF [odE [] 0 (callF [odE [] 0 (rd 12), odE [] 0 (rd 4)] F_ulaw_lacks)] F_ulaw_swapped), odS [0, 1, 0, 0, 0, 0, 0, 0, 0, 0, 0, 0, 0, 0, 0, 0, 0] 12]))) (el := rd 12) (ρ := [sc, st, x2, x3, .int 2, .lst lit, .int 3, x7, x8, x9, x10, x11, x12, x13, x14, x15, x16]) (fun row => [sc, st, x2, x3, .int 2, .lst lit, .int 3, x7, x8, x9, x10, x11, row, x13, x14, x15, x16]) pC id (by rw [List.map_id]; rfl) (fun x _ => rfl) (t9_all _ _ _ _ _ _ _ _ _ _ x12 _ _ _ _) (fun x hx _ => rdy_all _ _ _ _ _ _ _ _ _ _ x12 _ _ _ _ x hx) (fun x _ => rfl) rfl lit_le
  rw [List.map_id] at h
  exact h
theorem l7_32 (sc st x2 x3 x7 x8 x9 x10 x11 x12 x13 x14 x15 x16 : D) : L7 [sc, st, x2, x3, .int 2, .lst lit, .int 3, x7, x8, x9, x10, x11, x12, x13, x14, x15, x16] = some (.nx [sc, st, x2, x3, .int 2, .lst lit, .int 3, .lst litS, x8, x9, x10, x11, x12, x13, x14, x15, x16]) := by
  unfold L7
  rw [setS_ap, c7_ok _ _ _ _ _ _ _ _ _ _ _ _ _ _ (.inr trivial), fS]
  rfl
theorem cc32 : F_count_crossed [.int 3, .int 2] = some (.int 5, [.int 3, .int 2]) := by kernel_rfl
theorem l9_32 (sc st x2 x3 x7 x8 x9 x10 x11 x12 x13 x14 x15 x16 : D) : L9 [sc, st, x2, x3, .int 2, .lst lit, .int 3, .lst litS, x8, x9, x10, x11, x12, x13, x14, x15, x16] = some (.nx [sc, st, x2, x3, .int 2, .lst lit, .int 3, .lst litS, x8, x9, x10, x11, x12, x13, x14, x15, x16]) := by
  unfold L9
  have hc := c9_ok sc st x2 x3 (.lst litS) x8 x9 x10 x11 x12 x13 x14 x15 x16 (.inr trivial)
  have hl : lenD [.lst (lit.filter pC)] = some (.int 5) := by show some (D.int ((lit.filter pC).length : Int)) = _; rw [fC]; rfl
  have hi : intD [.int 2] = some (.int 2) := rfl
  have hm : modD [.int 2, .int 2] = some (.int 0) := by kernel_rfl
  have he : eqD [.int 0, .int 0] = some (.bl true) := by kernel_rfl
  have ho : ∀ κ i, (odS κ i).f = rd i := fun _ _ => rfl
  have h2 : rd 6 [sc, st, x2, x3, .int 2, .lst lit, .int 3, .lst litS, x8, x9, x10, x11, x12, x13, x14, x15, x16] = some (.int 3, [sc, st, x2, x3, .int 2, .lst lit, .int 3, .lst litS, x8, x9, x10, x11, x12, x13, x14, x15, x16]) := rfl
  have h4 : rd 4 [sc, st, x2, x3, .int 2, .lst lit, .int 3, .lst litS, x8, x9, x10, x11, x12, x13, x14, x15, x16] = some (.int 2, [sc, st, x2, x3, .int 2, .lst lit, .int 3, .lst litS, x8, x9, x10, x11, x12, x13, x14, x15, x16]) := rfl
  have hn : neD [.int 5, .int 5] = some (.bl false) := by kernel_rfl
  simp only [seqS_ap, contS_nx, contS_rt, contS_bk, contS_ct, nilS_ap, killS_ap, setS_ap, setC_so, dropS_ap, dropC_so, retS_ap, retC_so, retN_ap, bkS_ap, ctS_ap, ifS_ap, ifC_t, ifC_f, forS_ap, forC_so, asgS_ap, asgC_so, seqF_nil, seqF_cons, seqC_so, seqC2_so, odK_f, odK_al, odE_f, odE_al, opF_ap, opC_so, opC2_so, cF_ap, rdC_non, rdC_bl, rdC_int, rdC_str, rdC_tup, rdC_lst, rdC_dct, callF_ap, callC_so, callC2_so, wb_nil, wb_e, wb_k, tstF_ap, tstC_so, notF_ap, notC_so, andF_ap, andC_t, andC_f, orF_ap, orC_t, orC_f, ifF_ap, ifFC_t, ifFC_f, blF_ap, blC_so, andV_ap, andVC_t, andVC_f, orV_ap, orVC_t, orVC_f, notV_ap, notVC_so, truO_ap, truC_bl, truC_int, truC_lst, truC_tup, truC_non, fnF_ap, fnC_rt, fnC_nx, appF_ap, appC0_so, stS_ap, stC_so, stC1_so, yesF_ap, List.set_cons_zero, List.set_cons_succ, List.getElem?_cons_zero, List.getElem?_cons_succ, Option.map_some, Bool.not_true, Bool.not_false, Bool.false_eq_true, if_true, if_false, reduceCtorEq, hc, hl, hi, hm, he, ho, h2, h4, cc32, hn]
theorem grow32_0 : ∀ sc st x2 x3 x5 x7 x8 x9 x10 x11 x13 x14 x15 x16 : D, lit0.map (fun row => kq (B14 [sc, st, x2, x3, .int 2, x5, .int 3, x7, x8, x9, x10, x11, row, x13, x14, x15, x16])) = List.replicate 25 (some (sc, st, .int 2, x5, .int 3)) := by intros; kernel_rfl
theorem grow32_1 : ∀ sc st x2 x3 x5 x7 x8 x9 x10 x11 x13 x14 x15 x16 : D, lit1.map (fun row => kq (B14 [sc, st, x2, x3, .int 2, x5, .int 3, x7, x8, x9, x10, x11, row, x13, x14, x15, x16])) = List.replicate 25 (some (sc, st, .int 2, x5, .int 3)) := by intros; kernel_rfl
theorem grow32_2 : ∀ sc st x2 x3 x5 x7 x8 x9 x10 x11 x13 x14 x15 x16 : D, lit2.map (fun row => kq (B14 [sc, st, x2, x3, .int 2, x5, .int 3, x7, x8, x9, x10, x11, row, x13, x14, x15, x16])) = List.replicate 25 (some (sc, st, .int 2, x5, .int 3)) := by intros; kernel_rfl
theorem grow32_3 : ∀ sc st x2 x3 x5 x7 x8 x9 x10 x11 x13 x14 x15 x16 : D, lit3.map (fun row => kq (B14 [sc, st, x2, x3, .int 2, x5, .int 3, x7, x8, x9, x10, x11, row, x13, x14, x15, x16])) = List.replicate 25 (some (sc, st, .int 2, x5, .int 3)) := by intros; kernel_rfl
theorem grow32_4 : ∀ sc st x2 x3 x5 x7 x8 x9 x10 x11 x13 x14 x15 x16 : D, lit4.map (fun row => kq (B14 [sc, st, x2, x3, .int 2, x5, .int 3, x7, x8, x9, x10, x11, row, x13, x14, x15, x16])) = List.replicate 25 (some (sc, st, .int 2, x5, .int 3)) := by intros; kernel_rfl
theorem grow32_5 : ∀ sc st x2 x3 x5 x7 x8 x9 x10 x11 x13 x14 x15 x16 : D, lit5.map (fun row => kq (B14 [sc, st, x2, x3, .int 2, x5, .int 3, x7, x8, x9, x10, x11, row, x13, x14, x15, x16])) = List.replicate 25 (some (sc, st, .int 2, x5, .int 3)) := by intros; kernel_rfl
theorem grow32_6 : ∀ sc st x2 x3 x5 x7 x8 x9 x10 x11 x13 x14 x15 x16 : D, lit6.map (fun row => kq (B14 [sc, st, x2, x3, .int 2, x5, .int 3, x7, x8, x9, x10, x11, row, x13, x14, x15, x16])) = List.replicate 25 (some (sc, st, .int 2, x5, .int 3)) := by intros; kernel_rfl
theorem hp_lit : hp 3 2 = lit := by unfold hp; rw [hp32]
theorem gl6_3_2 : ∀ sc st x2 x3 x5 x7 x8 x9 x10 x11 x12 x13 x14 x15 x16 : D, L6 [sc, st, x2, x3, .int 2, x5, .int 3, x7, x8, x9, x10, x11, x12, x13, x14, x15, x16] = some (.nx [sc, st, x2, x3, .int 2, .lst (hp 3 2), .int 3, x7, x8, x9, x10, x11, x12, x13, x14, x15, x16]) := by
  intros
  rw [hp_lit]
  unfold L6
  simp only [seqS_ap, contS_nx, contS_rt, contS_bk, contS_ct, nilS_ap, killS_ap, setS_ap, setC_so, dropS_ap, dropC_so, retS_ap, retC_so, retN_ap, bkS_ap, ctS_ap, ifS_ap, ifC_t, ifC_f, forS_ap, forC_so, asgS_ap, asgC_so, seqF_nil, seqF_cons, seqC_so, seqC2_so, odK_f, odK_al, odE_f, odE_al, opF_ap, opC_so, opC2_so, cF_ap, rd_ap, rdC_non, rdC_bl, rdC_int, rdC_str, rdC_tup, rdC_lst, rdC_dct, callF_ap, callC_so, callC2_so, wb_nil, wb_e, wb_k, tstF_ap, tstC_so, notF_ap, notC_so, andF_ap, andC_t, andC_f, orF_ap, orC_t, orC_f, ifF_ap, ifFC_t, ifFC_f, blF_ap, blC_so, andV_ap, andVC_t, andVC_f, orV_ap, orVC_t, orVC_f, notV_ap, notVC_so, truO_ap, truC_bl, truC_int, truC_lst, truC_tup, truC_non, fnF_ap, fnC_rt, fnC_nx, appF_ap, appC0_so, stS_ap, stC_so, stC1_so, yesF_ap, List.set_cons_zero, List.set_cons_succ, List.getElem?_cons_zero, List.getElem?_cons_succ, Option.map_some, Bool.not_true, Bool.not_false, Bool.false_eq_true, if_true, if_false, reduceCtorEq, hp32]
theorem gl79_3_2 : ∀ sc st x2 x3 x7 x8 x9 x10 x11 x12 x13 x14 x15 x16 : D, kq (seqS (seqS L7 L8) L9 [sc, st, x2, x3, .int 2, .lst (hp 3 2), .int 3, x7, x8, x9, x10, x11, x12, x13, x14, x15, x16]) = some (sc, st, .int 2, .lst (hp 3 2), .int 3) := by
  intro sc st x2 x3 x7 x8 x9 x10 x11 x12 x13 x14 x15 x16
  rw [hp_lit, seqS_ap, seqS_ap, l7_32 sc st x2 x3 x7 x8 x9 x10 x11 x12 x13 x14 x15 x16, contS_nx, l8_32 sc st x2 x3 (.lst lit) x7 x8 x9 x10 x11 x12 x13 x14 x15 x16, contS_nx, l9_32 sc st x2 x3 x7 x8 x9 x10 x11 x12 x13 x14 x15 x16]
  rfl
theorem gpos_3_2 : (decide (0 < (hp 3 2).length) && decide ((hp 3 2).length < 1073741824)) = true := by rw [hp_lit]; kernel_rfl
theorem grow_3_2 : ∀ sc st x2 x3 x7 x8 x9 x10 x11 x13 x14 x15 x16 : D, (hp 3 2).map (fun row => kq (B14 [sc, st, x2, x3, .int 2, .lst (hp 3 2), .int 3, x7, x8, x9, x10, x11, row, x13, x14, x15, x16])) = List.replicate (hp 3 2).length (some (sc, st, .int 2, .lst (hp 3 2), .int 3)) := by
  intro sc st x2 x3 x7 x8 x9 x10 x11 x13 x14 x15 x16
  refine List.eq_replicate_iff.mpr ⟨List.length_map .., fun b hb => ?_⟩
  obtain ⟨row, hr, rfl⟩ := List.mem_map.mp hb
  rw [hp_lit] at hr ⊢
  exact lit_mem (p := fun row => kq (B14 [sc, st, x2, x3, .int 2, .lst lit, .int 3, x7, x8, x9, x10, x11, row, x13, x14, x15, x16]) = some (sc, st, .int 2, .lst lit, .int 3))
    (fun x h => (List.eq_replicate_iff.mp (grow32_0 sc st x2 x3 (.lst lit) x7 x8 x9 x10 x11 x13 x14 x15 x16)).2 _ (List.mem_map.mpr ⟨x, h, rfl⟩))
    (fun x h => (List.eq_replicate_iff.mp (grow32_1 sc st x2 x3 (.lst lit) x7 x8 x9 x10 x11 x13 x14 x15 x16)).2 _ (List.mem_map.mpr ⟨x, h, rfl⟩))
    (fun x h => (List.eq_replicate_iff.mp (grow32_2 sc st x2 x3 (.lst lit) x7 x8 x9 x10 x11 x13 x14 x15 x16)).2 _ (List.mem_map.mpr ⟨x, h, rfl⟩))
    (fun x h => (List.eq_replicate_iff.mp (grow32_3 sc st x2 x3 (.lst lit) x7 x8 x9 x10 x11 x13 x14 x15 x16)).2 _ (List.mem_map.mpr ⟨x, h, rfl⟩))
    (fun x h => (List.eq_replicate_iff.mp (grow32_4 sc st x2 x3 (.lst lit) x7 x8 x9 x10 x11 x13 x14 x15 x16)).2 _ (List.mem_map.mpr ⟨x, h, rfl⟩))
    (fun x h => (List.eq_replicate_iff.mp (grow32_5 sc st x2 x3 (.lst lit) x7 x8 x9 x10 x11 x13 x14 x15 x16)).2 _ (List.mem_map.mpr ⟨x, h, rfl⟩))
    (fun x h => (List.eq_replicate_iff.mp (grow32_6 sc st x2 x3 (.lst lit) x7 x8 x9 x10 x11 x13 x14 x15 x16)).2 _ (List.mem_map.mpr ⟨x, h, rfl⟩))
    row hr
theorem good_3_2 : Good 3 2 (hp 3 2) := ⟨gl6_3_2, gl79_3_2, gpos_3_2, grow_3_2⟩
theorem Good.row {n c : Int} {xs : List D} (g : Good n c xs) {row : D} (h : row ∈ xs) (sc st x2 x3 x7 x8 x9 x10 x11 x13 x14 x15 x16 : D) : kq (B14 [sc, st, x2, x3, .int c, .lst xs, .int n, x7, x8, x9, x10, x11, row, x13, x14, x15, x16]) = some (sc, st, .int c, .lst xs, .int n) :=
  (List.eq_replicate_iff.mp (g.rows sc st x2 x3 x7 x8 x9 x10 x11 x13 x14 x15 x16)).2 _ (List.mem_map.mpr ⟨row, h, rfl⟩)
theorem atI_mem {xs : List D} {v : Int} (h0 : 0 ≤ v) (h1 : v < xs.length) : ∃ d, L2.atI xs v = some d ∧ d ∈ xs := by
  have h2 : v.toNat < xs.length := by omega
  exact ⟨xs[v.toNat], by simp [L2.atI, L2.ixN, h0, h1, h2], List.getElem_mem h2⟩
theorem a12_ok {n c : Int} {xs : List D} (g : Good n c xs) (ns : List Int) (k cc : Int) (x2 x3 x7 x8 x9 x10 x11 x12 x13 x14 x15 x16 : D) : ∃ row k2 c2, row ∈ xs ∧ A12 [(.lst (ns.map .int)), S0 k cc, x2, x3, .int c, .lst xs, .int n, x7, x8, x9, x10, x11, x12, x13, x14, x15, x16] = some (.nx [(.lst (ns.map .int)), S0 k2 c2, x2, x3, .int c, .lst xs, .int n, x7, x8, x9, x10, x11, row, x13, x14, x15, x16]) := by
  have hp := g.pos
  rw [Bool.and_eq_true] at hp
  have hl := of_decide_eq_true hp.1
  have hu := of_decide_eq_true hp.2
  obtain ⟨v, k2, c2, h0, h1, e⟩ := draw_ok ns k cc xs.length (by omega) (by omega)
  obtain ⟨row, hr, hm⟩ := atI_mem h0 h1
  exact ⟨row, k2, c2, hm, by simp [A12, ixD, hr, e, asgS, tgT, tgs, tgN, seqS, setS, nilS, ifS, ifF, callF, wb, tstF, seqF, odS, odE, rd, cF, retS, opF, addD, ltD, i2, tupD, lstD, lenD, fnF, rest, sizeLine]⟩
theorem l10_ok {n c : Int} {xs : List D} (g : Good n c xs) (ns : List Int) (k cc : Int) (x2 x3 x7 x8 x9 x10 x11 x12 x13 x14 x15 x16 : D) : ∃ k2 c2 y2 y3 y4 y5 y6 y7 y8 y9 y10 y11 y12 y13 y14 y15 y16, L10 [(.lst (ns.map .int)), S0 k cc, x2, x3, .int c, .lst xs, .int n, x7, x8, x9, x10, x11, x12, x13, x14, x15, x16] = some (.nx [(.lst (ns.map .int)), S0 k2 c2, y2, y3, y4, y5, y6, y7, y8, y9, y10, y11, y12, y13, y14, y15, y16]) := by
  have key := loopS_inv (m := tgN 8) (s := seqS A12 B14) (I := fun ρ => ∃ k2 c2 x2 x3 x7 x8 x9 x10 x11 x12 x13 x14 x15 x16, ρ = [(.lst (ns.map .int)), S0 k2 c2, x2, x3, .int c, .lst xs, .int n, x7, x8, x9, x10, x11, x12, x13, x14, x15, x16]) (fun x ρ h => by
    obtain ⟨k2, c2, x2, x3, x7, x8, x9, x10, x11, x12, x13, x14, x15, x16, rfl⟩ := h
    obtain ⟨row, k3, c3, hm, e⟩ := a12_ok g ns k2 c2 x2 x3 x7 x x9 x10 x11 x12 x13 x14 x15 x16
    obtain ⟨z2, z3, z7, z8, z9, z10, z11, z12, z13, z14, z15, z16, e2⟩ := kq_nx (g.row hm (.lst (ns.map .int)) (S0 k3 c3) x2 x3 x7 x x9 x10 x11 x13 x14 x15 x16)
    exact ⟨_, _, rfl, seq_nx e e2, k3, c3, z2, z3, z7, z8, z9, z10, z11, z12, z13, z14, z15, z16, rfl⟩) [.int 0, .int 1, .int 2, .int 3] [(.lst (ns.map .int)), S0 k cc, x2, x3, .int c, .lst xs, .int n, x7, x8, x9, x10, x11, x12, x13, x14, x15, x16] ⟨k, cc, x2, x3, x7, x8, x9, x10, x11, x12, x13, x14, x15, x16, rfl⟩
  obtain ⟨ρ', e, k2, c2, z2, z3, z7, z8, z9, z10, z11, z12, z13, z14, z15, z16, rfl⟩ := key
  exact ⟨k2, c2, z2, z3, .int c, .lst xs, .int n, z7, z8, z9, z10, z11, z12, z13, z14, z15, z16, e⟩
abbrev S1218 : SemS := seqS (seqS (seqS (seqS (seqS (seqS L12 L13) L14) L15) L16) L17) L18
abbrev Seg (n : Int) : Prop := ∀ sc st x2 x3 x4 x5 x7 x8 x9 x10 x11 x12 x13 x14 x15 x16 : D, kp (S1218 [sc, st, x2, x3, x4, x5, .int n, x7, x8, x9, x10, x11, x12, x13, x14, x15, x16]) = some (sc, st, 15)
theorem seg1 : Seg 1 := by unfold Seg S1218; intros; kernel_rfl
theorem seg2 : Seg 2 := by unfold Seg S1218; intros; kernel_rfl
theorem seg19 : ∀ sc st x2 x3 x4 x5 x6 x7 x8 x9 x10 x11 x12 x13 x14 x15 x16 : D, kp (seqS (seqS (seqS L19 L20) L21) L22 [sc, st, x2, x3, x4, x5, x6, x7, x8, x9, x10, x11, x12, x13, x14, x15, x16]) = some (sc, st, 15) := by intros; kernel_rfl
abbrev Fin (a : Int) : Prop := ∀ sc st x3 x4 x5 x6 x7 x8 x9 x10 x11 x12 x13 x14 x15 x16 : D, okT (L24 [sc, st, .int a, x3, x4, x5, x6, x7, x8, x9, x10, x11, x12, x13, x14, x15, x16]) = true
theorem fin1 : Fin 1 := by unfold Fin; intros; kernel_rfl
theorem fin2 : Fin 2 := by unfold Fin; intros; kernel_rfl
theorem fin3 : Fin 3 := by unfold Fin; intros; kernel_rfl
theorem fin4 : Fin 4 := by unfold Fin; intros; kernel_rfl
theorem fin5 : Fin 5 := by unfold Fin; intros; kernel_rfl
theorem fin6 : Fin 6 := by unfold Fin; intros; kernel_rfl
theorem fin7 : Fin 7 := by unfold Fin; intros; kernel_rfl
theorem fin8 : Fin 8 := by unfold Fin; intros; kernel_rfl
theorem t19 (ns : List Int) (k cc : Int) (x2 x3 x4 x5 x6 x7 x8 x9 x10 x11 x12 x13 x14 x15 x16 : D) : Tr (seqS L19 (seqS L20 (seqS L21 (seqS L22 (seqS L23 (seqS L24 (nilS))))))) [(.lst (ns.map .int)), S0 k cc, x2, x3, x4, x5, x6, x7, x8, x9, x10, x11, x12, x13, x14, x15, x16] := by
  obtain ⟨y2, y3, y4, y5, y6, y7, y8, y9, y10, y11, y12, y13, y14, y15, y16, e⟩ := kp_nx (seg19 (.lst (ns.map .int)) (S0 k cc) x2 x3 x4 x5 x6 x7 x8 x9 x10 x11 x12 x13 x14 x15 x16)
  refine tr_as (tr_as (tr_as (tr_seq e ?_)))
  obtain ⟨v, k2, c2, h0, h1, e2⟩ := l23_ok ns k cc y2 y3 y4 y5 y6 y7 y8 y9 y10 y11 y12 y13 y14 y15 y16
  refine tr_seq e2 (tr_end ?_)
  have hv : v = 1 ∨ v = 2 ∨ v = 3 ∨ v = 4 ∨ v = 5 ∨ v = 6 ∨ v = 7 ∨ v = 8 := by omega
  rcases hv with rfl | rfl | rfl | rfl | rfl | rfl | rfl | rfl
  · exact fin1 _ _ _ _ _ _ _ _ _ _ _ _ _ _ _ _
  · exact fin2 _ _ _ _ _ _ _ _ _ _ _ _ _ _ _ _
  · exact fin3 _ _ _ _ _ _ _ _ _ _ _ _ _ _ _ _
  · exact fin4 _ _ _ _ _ _ _ _ _ _ _ _ _ _ _ _
  · exact fin5 _ _ _ _ _ _ _ _ _ _ _ _ _ _ _ _
  · exact fin6 _ _ _ _ _ _ _ _ _ _ _ _ _ _ _ _
  · exact fin7 _ _ _ _ _ _ _ _ _ _ _ _ _ _ _ _
  · exact fin8 _ _ _ _ _ _ _ _ _ _ _ _ _ _ _ _
theorem t11 (ns : List Int) (k cc : Int) (x2 x3 x4 x5 x6 x7 x8 x9 x10 x11 x12 x13 x14 x15 x16 : D) : Tr (seqS L11 (seqS L12 (seqS L13 (seqS L14 (seqS L15 (seqS L16 (seqS L17 (seqS L18 (seqS L19 (seqS L20 (seqS L21 (seqS L22 (seqS L23 (seqS L24 (nilS))))))))))))))) [(.lst (ns.map .int)), S0 k cc, x2, x3, x4, x5, x6, x7, x8, x9, x10, x11, x12, x13, x14, x15, x16] := by
  obtain ⟨v, k2, c2, h0, h1, e2⟩ := l11_ok ns k cc x2 x3 x4 x5 x6 x7 x8 x9 x10 x11 x12 x13 x14 x15 x16
  refine tr_seq e2 ?_
  have hv : v = 1 ∨ v = 2 := by omega
  have hs : Seg v := by
    rcases hv with rfl | rfl
    · exact seg1
    · exact seg2
  obtain ⟨y2, y3, y4, y5, y6, y7, y8, y9, y10, y11, y12, y13, y14, y15, y16, e⟩ := kp_nx (hs (.lst (ns.map .int)) (S0 k2 c2) x2 x3 x4 x5 x7 x8 x9 x10 x11 x12 x13 x14 x15 x16)
  exact tr_as (tr_as (tr_as (tr_as (tr_as (tr_as (tr_seq e (t19 ns k2 c2 y2 y3 y4 y5 y6 y7 y8 y9 y10 y11 y12 y13 y14 y15 y16)))))))
theorem t6 {n c : Int} {xs : List D} (g : Good n c xs) (ns : List Int) (k cc : Int) (x2 x3 x5 x7 x8 x9 x10 x11 x12 x13 x14 x15 x16 : D) : Tr (seqS L6 (seqS L7 (seqS L8 (seqS L9 (seqS L10 (seqS L11 (seqS L12 (seqS L13 (seqS L14 (seqS L15 (seqS L16 (seqS L17 (seqS L18 (seqS L19 (seqS L20 (seqS L21 (seqS L22 (seqS L23 (seqS L24 (nilS)))))))))))))))))))) [(.lst (ns.map .int)), S0 k cc, x2, x3, .int c, x5, .int n, x7, x8, x9, x10, x11, x12, x13, x14, x15, x16] := by
  refine tr_seq (g.l6 (.lst (ns.map .int)) (S0 k cc) x2 x3 x5 x7 x8 x9 x10 x11 x12 x13 x14 x15 x16) ?_
  obtain ⟨z2, z3, z7, z8, z9, z10, z11, z12, z13, z14, z15, z16, e⟩ := kq_nx (g.l79 (.lst (ns.map .int)) (S0 k cc) x2 x3 x7 x8 x9 x10 x11 x12 x13 x14 x15 x16)
  refine tr_as (tr_as (tr_seq e ?_))
  obtain ⟨k2, c2, y2, y3, y4, y5, y6, y7, y8, y9, y10, y11, y12, y13, y14, y15, y16, e2⟩ := l10_ok g ns k cc z2 z3 z7 z8 z9 z10 z11 z12 z13 z14 z15 z16
  exact tr_seq e2 (t11 ns k2 c2 y2 y3 y4 y5 y6 y7 y8 y9 y10 y11 y12 y13 y14 y15 y16)
theorem t4 (ns : List Int) (k cc : Int) (x2 x3 x4 x5 x6 x7 x8 x9 x10 x11 x12 x13 x14 x15 x16 : D) : Tr (seqS L4 (seqS L5 (seqS L6 (seqS L7 (seqS L8 (seqS L9 (seqS L10 (seqS L11 (seqS L12 (seqS L13 (seqS L14 (seqS L15 (seqS L16 (seqS L17 (seqS L18 (seqS L19 (seqS L20 (seqS L21 (seqS L22 (seqS L23 (seqS L24 (nilS)))))))))))))))))))))) [(.lst (ns.map .int)), S0 k cc, x2, x3, x4, x5, x6, x7, x8, x9, x10, x11, x12, x13, x14, x15, x16] := by
  obtain ⟨v, k2, c2, h0, h1, e⟩ := l4_ok ns k cc x2 x3 x4 x5 x6 x7 x8 x9 x10 x11 x12 x13 x14 x15 x16
  refine tr_seq e ?_
  have hv : v = 1 ∨ v = 2 ∨ v = 3 := by omega
  rcases hv with rfl | rfl | rfl
  · obtain ⟨c, k3, c3, hc, e5⟩ := l5_lt ns k2 c2 1 (by decide) x2 x3 x4 x5 x7 x8 x9 x10 x11 x12 x13 x14 x15 x16
    refine tr_seq e5 ?_
    rcases hc with rfl | rfl | rfl | rfl
    · exact t6 good_1_1 ns k3 c3 x2 x3 x5 x7 x8 x9 x10 x11 x12 x13 x14 x15 x16
    · exact t6 good_1_2 ns k3 c3 x2 x3 x5 x7 x8 x9 x10 x11 x12 x13 x14 x15 x16
    · exact t6 good_1_3 ns k3 c3 x2 x3 x5 x7 x8 x9 x10 x11 x12 x13 x14 x15 x16
    · exact t6 good_1_4 ns k3 c3 x2 x3 x5 x7 x8 x9 x10 x11 x12 x13 x14 x15 x16
  · obtain ⟨c, k3, c3, hc, e5⟩ := l5_lt ns k2 c2 2 (by decide) x2 x3 x4 x5 x7 x8 x9 x10 x11 x12 x13 x14 x15 x16
    refine tr_seq e5 ?_
    rcases hc with rfl | rfl | rfl | rfl
    · exact t6 good_2_1 ns k3 c3 x2 x3 x5 x7 x8 x9 x10 x11 x12 x13 x14 x15 x16
    · exact t6 good_2_2 ns k3 c3 x2 x3 x5 x7 x8 x9 x10 x11 x12 x13 x14 x15 x16
    · exact t6 good_2_3 ns k3 c3 x2 x3 x5 x7 x8 x9 x10 x11 x12 x13 x14 x15 x16
    · exact t6 good_2_4 ns k3 c3 x2 x3 x5 x7 x8 x9 x10 x11 x12 x13 x14 x15 x16
  · obtain ⟨c, k3, c3, hc, e5⟩ := l5_ge ns k2 c2 3 (by decide) x2 x3 x4 x5 x7 x8 x9 x10 x11 x12 x13 x14 x15 x16
    refine tr_seq e5 ?_
    rcases hc with rfl | rfl
    · exact t6 good_3_1 ns k3 c3 x2 x3 x5 x7 x8 x9 x10 x11 x12 x13 x14 x15 x16
    · exact t6 good_3_2 ns k3 c3 x2 x3 x5 x7 x8 x9 x10 x11 x12 x13 x14 x15 x16
theorem law_true : ∀ ns : List Int, ns.length ≤ 63 → ∃ ρ, F_law [.lst (ns.map D.int)] = some (.bl true, ρ) := by
  intro ns _
  have h : Tr S_law [(.lst (ns.map .int)), .und, .und, .und, .und, .und, .und, .und, .und, .und, .und, .und, .und, .und, .und, .und, .und] := by
    refine tr_seq (s := L0) (ρ' := [(.lst (ns.map .int)), S0 0 0, .und, .und, .und, .und, .und, .und, .und, .und, .und, .und, .und, .und, .und, .und, .und]) (by kernel_rfl) ?_
    obtain ⟨a, b, c, k2, c2, hb, e⟩ := l1_ok ns 0 0
    refine tr_seq e ?_
    obtain ⟨y2, y3, y4, y5, y6, y7, y8, y9, y10, y11, y12, y13, y14, y15, y16, e2⟩ := kp_nx (hb (.lst (ns.map .int)) (S0 k2 c2) .und .und .und .und .und .und .und .und .und .und .und .und)
    exact tr_as (tr_seq e2 (t4 ns k2 c2 y2 y3 y4 y5 y6 y7 y8 y9 y10 y11 y12 y13 y14 y15 y16))
  obtain ⟨r, e⟩ := h
  refine ⟨rest [] 0 [.lst (ns.map D.int)] r, ?_⟩
  unfold F_law
  exact fn_rt (by kernel_rfl) e

def spLaw (K : PySem.W.Frag) : Sp := fun vs H Q _ => ∃ (a : Addr) (ns : List Int), vs = [.ref a] ∧ SqL K H a (ns.map V.int) ∧ ns.length ≤ 63 ∧ ∀ H', Q (.bl true) H'
theorem sp_law {K : PySem.W.Frag} {P : Program} {w : World} (T : ∀ ns : List Int, ns.length ≤ 63 → ∃ ρ, F_law [.lst (ns.map D.int)] = some (.bl true, ρ)) : ∀ vs H Q E, spLaw K vs H Q E → spD ⟨K, P, w⟩ [] [0] 0 F_law vs H Q E := sp_of T
theorem all_mk (T : ∀ ns : List Int, ns.length ≤ 63 → ∃ ρ, F_law [.lst (ns.map D.int)] = some (.bl true, ρ)) {l : PySem.W.OpenLaw} {w : World} {K : PySem.W.Frag} {h : Heap} {mg : Str → Option Value} {fa : Addr} (X : K.In h) (G : h.Ns mainGlobals mg) (hfa : mg "law" = some (.ref fa)) {a_lines_below : Addr} {oc_lines_below : Value} {od_lines_below : Option Addr} {sl_lines_below : Array (Option Value)} {kV_lines_below dc_lines_below pm_lines_below cd_lines_below ct_lines_below : Value} {an_lines_below : Option Addr} {a_heaps : Addr} {oc_heaps : Value} {od_heaps : Option Addr} {sl_heaps : Array (Option Value)} {kV_heaps dc_heaps pm_heaps cd_heaps ct_heaps : Value} {an_heaps : Option Addr} {a_count_heaps : Addr} {oc_count_heaps : Value} {od_count_heaps : Option Addr} {sl_count_heaps : Array (Option Value)} {kV_count_heaps dc_count_heaps pm_count_heaps cd_count_heaps ct_count_heaps : Value} {an_count_heaps : Option Addr} {a_cubes : Addr} {oc_cubes : Value} {od_cubes : Option Addr} {sl_cubes : Array (Option Value)} {kV_cubes dc_cubes pm_cubes cd_cubes ct_cubes : Value} {an_cubes : Option Addr} {a_from_cubes : Addr} {oc_from_cubes : Value} {od_from_cubes : Option Addr} {sl_from_cubes : Array (Option Value)} {kV_from_cubes dc_from_cubes pm_from_cubes cd_from_cubes ct_from_cubes : Value} {an_from_cubes : Option Addr} {a_moved : Addr} {oc_moved : Value} {od_moved : Option Addr} {sl_moved : Array (Option Value)} {kV_moved dc_moved pm_moved cd_moved ct_moved : Value} {an_moved : Option Addr} {a_swapped : Addr} {oc_swapped : Value} {od_swapped : Option Addr} {sl_swapped : Array (Option Value)} {kV_swapped dc_swapped pm_swapped cd_swapped ct_swapped : Value} {an_swapped : Option Addr} {a_rolled : Addr} {oc_rolled : Value} {od_rolled : Option Addr} {sl_rolled : Array (Option Value)} {kV_rolled dc_rolled pm_rolled cd_rolled ct_rolled : Value} {an_rolled : Option Addr} {a_filled_up : Addr} {oc_filled_up : Value} {od_filled_up : Option Addr} {sl_filled_up : Array (Option Value)} {kV_filled_up dc_filled_up pm_filled_up cd_filled_up ct_filled_up : Value} {an_filled_up : Option Addr} {a_choose : Addr} {oc_choose : Value} {od_choose : Option Addr} {sl_choose : Array (Option Value)} {kV_choose dc_choose pm_choose cd_choose ct_choose : Value} {an_choose : Option Addr} {a_is_swapped : Addr} {oc_is_swapped : Value} {od_is_swapped : Option Addr} {sl_is_swapped : Array (Option Value)} {kV_is_swapped dc_is_swapped pm_is_swapped cd_is_swapped ct_is_swapped : Value} {an_is_swapped : Option Addr} {a_is_rolled : Addr} {oc_is_rolled : Value} {od_is_rolled : Option Addr} {sl_is_rolled : Array (Option Value)} {kV_is_rolled dc_is_rolled pm_is_rolled cd_is_rolled ct_is_rolled : Value} {an_is_rolled : Option Addr} {a_is_whole : Addr} {oc_is_whole : Value} {od_is_whole : Option Addr} {sl_is_whole : Array (Option Value)} {kV_is_whole dc_is_whole pm_is_whole cd_is_whole ct_is_whole : Value} {an_is_whole : Option Addr} {a_is_mirrored : Addr} {oc_is_mirrored : Value} {od_is_mirrored : Option Addr} {sl_is_mirrored : Array (Option Value)} {kV_is_mirrored dc_is_mirrored pm_is_mirrored cd_is_mirrored ct_is_mirrored : Value} {an_is_mirrored : Option Addr} {a_is_crossed : Addr} {oc_is_crossed : Value} {od_is_crossed : Option Addr} {sl_is_crossed : Array (Option Value)} {kV_is_crossed dc_is_crossed pm_is_crossed cd_is_crossed ct_is_crossed : Value} {an_is_crossed : Option Addr} {a_count_swapped : Addr} {oc_count_swapped : Value} {od_count_swapped : Option Addr} {sl_count_swapped : Array (Option Value)} {kV_count_swapped dc_count_swapped pm_count_swapped cd_count_swapped ct_count_swapped : Value} {an_count_swapped : Option Addr} {a_count_rolled : Addr} {oc_count_rolled : Value} {od_count_rolled : Option Addr} {sl_count_rolled : Array (Option Value)} {kV_count_rolled dc_count_rolled pm_count_rolled cd_count_rolled ct_count_rolled : Value} {an_count_rolled : Option Addr} {a_count_whole : Addr} {oc_count_whole : Value} {od_count_whole : Option Addr} {sl_count_whole : Array (Option Value)} {kV_count_whole dc_count_whole pm_count_whole cd_count_whole ct_count_whole : Value} {an_count_whole : Option Addr} {a_count_mirrored : Addr} {oc_count_mirrored : Value} {od_count_mirrored : Option Addr} {sl_count_mirrored : Array (Option Value)} {kV_count_mirrored dc_count_mirrored pm_count_mirrored cd_count_mirrored ct_count_mirrored : Value} {an_count_mirrored : Option Addr} {a_count_crossed : Addr} {oc_count_crossed : Value} {od_count_crossed : Option Addr} {sl_count_crossed : Array (Option Value)} {kV_count_crossed dc_count_crossed pm_count_crossed cd_count_crossed ct_count_crossed : Value} {an_count_crossed : Option Addr} {a_those_swapped : Addr} {oc_those_swapped : Value} {od_those_swapped : Option Addr} {sl_those_swapped : Array (Option Value)} {kV_those_swapped dc_those_swapped pm_those_swapped cd_those_swapped ct_those_swapped : Value} {an_those_swapped : Option Addr} {a_lots_moved : Addr} {oc_lots_moved : Value} {od_lots_moved : Option Addr} {sl_lots_moved : Array (Option Value)} {kV_lots_moved dc_lots_moved pm_lots_moved cd_lots_moved ct_lots_moved : Value} {an_lots_moved : Option Addr} {a_count_lots : Addr} {oc_count_lots : Value} {od_count_lots : Option Addr} {sl_count_lots : Array (Option Value)} {kV_count_lots dc_count_lots pm_count_lots cd_count_lots ct_count_lots : Value} {an_count_lots : Option Addr} {a_ulaw_refill : Addr} {oc_ulaw_refill : Value} {od_ulaw_refill : Option Addr} {sl_ulaw_refill : Array (Option Value)} {kV_ulaw_refill dc_ulaw_refill pm_ulaw_refill cd_ulaw_refill ct_ulaw_refill : Value} {an_ulaw_refill : Option Addr} {a_ulaw_draw : Addr} {oc_ulaw_draw : Value} {od_ulaw_draw : Option Addr} {sl_ulaw_draw : Array (Option Value)} {kV_ulaw_draw dc_ulaw_draw pm_ulaw_draw cd_ulaw_draw ct_ulaw_draw : Value} {an_ulaw_draw : Option Addr} {a_ulaw_exact : Addr} {oc_ulaw_exact : Value} {od_ulaw_exact : Option Addr} {sl_ulaw_exact : Array (Option Value)} {kV_ulaw_exact dc_ulaw_exact pm_ulaw_exact cd_ulaw_exact ct_ulaw_exact : Value} {an_ulaw_exact : Option Addr} {a_ulaw_heaps : Addr} {oc_ulaw_heaps : Value} {od_ulaw_heaps : Option Addr} {sl_ulaw_heaps : Array (Option Value)} {kV_ulaw_heaps dc_ulaw_heaps pm_ulaw_heaps cd_ulaw_heaps ct_ulaw_heaps : Value} {an_ulaw_heaps : Option Addr} {a_ulaw_box : Addr} {oc_ulaw_box : Value} {od_ulaw_box : Option Addr} {sl_ulaw_box : Array (Option Value)} {kV_ulaw_box dc_ulaw_box pm_ulaw_box cd_ulaw_box ct_ulaw_box : Value} {an_ulaw_box : Option Addr} {a_ulaw_swapped : Addr} {oc_ulaw_swapped : Value} {od_ulaw_swapped : Option Addr} {sl_ulaw_swapped : Array (Option Value)} {kV_ulaw_swapped dc_ulaw_swapped pm_ulaw_swapped cd_ulaw_swapped ct_ulaw_swapped : Value} {an_ulaw_swapped : Option Addr} {a_ulaw_rolled : Addr} {oc_ulaw_rolled : Value} {od_ulaw_rolled : Option Addr} {sl_ulaw_rolled : Array (Option Value)} {kV_ulaw_rolled dc_ulaw_rolled pm_ulaw_rolled cd_ulaw_rolled ct_ulaw_rolled : Value} {an_ulaw_rolled : Option Addr} {a_ulaw_lacks : Addr} {oc_ulaw_lacks : Value} {od_ulaw_lacks : Option Addr} {sl_ulaw_lacks : Array (Option Value)} {kV_ulaw_lacks dc_ulaw_lacks pm_ulaw_lacks cd_ulaw_lacks ct_ulaw_lacks : Value} {an_ulaw_lacks : Option Addr} {a_ulaw_lot : Addr} {oc_ulaw_lot : Value} {od_ulaw_lot : Option Addr} {sl_ulaw_lot : Array (Option Value)} {kV_ulaw_lot dc_ulaw_lot pm_ulaw_lot cd_ulaw_lot ct_ulaw_lot : Value} {an_ulaw_lot : Option Addr} {a_law : Addr} {oc_law : Value} {od_law : Option Addr} {sl_law : Array (Option Value)} {kV_law dc_law pm_law cd_law ct_law : Value} {an_law : Option Addr} (x_lines_below : PySem.W.nsIn K mainGlobals "lines_below" = some (some (.ref a_lines_below))) (l_lines_below : K.lookup a_lines_below = some ⟨oc_lines_below, od_lines_below, .func (PySem.W.fnOf "lines_below" "lines_below" (defArgs s_lines_below) (defBody s_lines_below) (defScope s_lines_below) .none kV_lines_below dc_lines_below pm_lines_below an_lines_below cd_lines_below ct_lines_below), sl_lines_below⟩) (c_lines_below : PySem.W.codeIn K cd_lines_below "lines_below" = true) (k_lines_below : PySem.W.keepIn K (.ref a_lines_below) = true) (x_heaps : PySem.W.nsIn K mainGlobals "heaps" = some (some (.ref a_heaps))) (l_heaps : K.lookup a_heaps = some ⟨oc_heaps, od_heaps, .func (PySem.W.fnOf "heaps" "heaps" (defArgs s_heaps) (defBody s_heaps) (defScope s_heaps) .none kV_heaps dc_heaps pm_heaps an_heaps cd_heaps ct_heaps), sl_heaps⟩) (c_heaps : PySem.W.codeIn K cd_heaps "heaps" = true) (k_heaps : PySem.W.keepIn K (.ref a_heaps) = true) (x_count_heaps : PySem.W.nsIn K mainGlobals "count_heaps" = some (some (.ref a_count_heaps))) (l_count_heaps : K.lookup a_count_heaps = some ⟨oc_count_heaps, od_count_heaps, .func (PySem.W.fnOf "count_heaps" "count_heaps" (defArgs s_count_heaps) (defBody s_count_heaps) (defScope s_count_heaps) .none kV_count_heaps dc_count_heaps pm_count_heaps an_count_heaps cd_count_heaps ct_count_heaps), sl_count_heaps⟩) (c_count_heaps : PySem.W.codeIn K cd_count_heaps "count_heaps" = true) (k_count_heaps : PySem.W.keepIn K (.ref a_count_heaps) = true) (x_cubes : PySem.W.nsIn K mainGlobals "cubes" = some (some (.ref a_cubes))) (l_cubes : K.lookup a_cubes = some ⟨oc_cubes, od_cubes, .func (PySem.W.fnOf "cubes" "cubes" (defArgs s_cubes) (defBody s_cubes) (defScope s_cubes) .none kV_cubes dc_cubes pm_cubes an_cubes cd_cubes ct_cubes), sl_cubes⟩) (c_cubes : PySem.W.codeIn K cd_cubes "cubes" = true) (k_cubes : PySem.W.keepIn K (.ref a_cubes) = true) (x_from_cubes : PySem.W.nsIn K mainGlobals "from_cubes" = some (some (.ref a_from_cubes))) (l_from_cubes : K.lookup a_from_cubes = some ⟨oc_from_cubes, od_from_cubes, .func (PySem.W.fnOf "from_cubes" "from_cubes" (defArgs s_from_cubes) (defBody s_from_cubes) (defScope s_from_cubes) .none kV_from_cubes dc_from_cubes pm_from_cubes an_from_cubes cd_from_cubes ct_from_cubes), sl_from_cubes⟩) (c_from_cubes : PySem.W.codeIn K cd_from_cubes "from_cubes" = true) (k_from_cubes : PySem.W.keepIn K (.ref a_from_cubes) = true) (x_moved : PySem.W.nsIn K mainGlobals "moved" = some (some (.ref a_moved))) (l_moved : K.lookup a_moved = some ⟨oc_moved, od_moved, .func (PySem.W.fnOf "moved" "moved" (defArgs s_moved) (defBody s_moved) (defScope s_moved) .none kV_moved dc_moved pm_moved an_moved cd_moved ct_moved), sl_moved⟩) (c_moved : PySem.W.codeIn K cd_moved "moved" = true) (k_moved : PySem.W.keepIn K (.ref a_moved) = true) (x_swapped : PySem.W.nsIn K mainGlobals "swapped" = some (some (.ref a_swapped))) (l_swapped : K.lookup a_swapped = some ⟨oc_swapped, od_swapped, .func (PySem.W.fnOf "swapped" "swapped" (defArgs s_swapped) (defBody s_swapped) (defScope s_swapped) .none kV_swapped dc_swapped pm_swapped an_swapped cd_swapped ct_swapped), sl_swapped⟩) (c_swapped : PySem.W.codeIn K cd_swapped "swapped" = true) (k_swapped : PySem.W.keepIn K (.ref a_swapped) = true) (x_rolled : PySem.W.nsIn K mainGlobals "rolled" = some (some (.ref a_rolled))) (l_rolled : K.lookup a_rolled = some ⟨oc_rolled, od_rolled, .func (PySem.W.fnOf "rolled" "rolled" (defArgs s_rolled) (defBody s_rolled) (defScope s_rolled) .none kV_rolled dc_rolled pm_rolled an_rolled cd_rolled ct_rolled), sl_rolled⟩) (c_rolled : PySem.W.codeIn K cd_rolled "rolled" = true) (k_rolled : PySem.W.keepIn K (.ref a_rolled) = true) (x_filled_up : PySem.W.nsIn K mainGlobals "filled_up" = some (some (.ref a_filled_up))) (l_filled_up : K.lookup a_filled_up = some ⟨oc_filled_up, od_filled_up, .func (PySem.W.fnOf "filled_up" "filled_up" (defArgs s_filled_up) (defBody s_filled_up) (defScope s_filled_up) .none kV_filled_up dc_filled_up pm_filled_up an_filled_up cd_filled_up ct_filled_up), sl_filled_up⟩) (c_filled_up : PySem.W.codeIn K cd_filled_up "filled_up" = true) (k_filled_up : PySem.W.keepIn K (.ref a_filled_up) = true) (x_choose : PySem.W.nsIn K mainGlobals "choose" = some (some (.ref a_choose))) (l_choose : K.lookup a_choose = some ⟨oc_choose, od_choose, .func (PySem.W.fnOf "choose" "choose" (defArgs s_choose) (defBody s_choose) (defScope s_choose) .none kV_choose dc_choose pm_choose an_choose cd_choose ct_choose), sl_choose⟩) (c_choose : PySem.W.codeIn K cd_choose "choose" = true) (k_choose : PySem.W.keepIn K (.ref a_choose) = true) (x_is_swapped : PySem.W.nsIn K mainGlobals "is_swapped" = some (some (.ref a_is_swapped))) (l_is_swapped : K.lookup a_is_swapped = some ⟨oc_is_swapped, od_is_swapped, .func (PySem.W.fnOf "is_swapped" "is_swapped" (defArgs s_is_swapped) (defBody s_is_swapped) (defScope s_is_swapped) .none kV_is_swapped dc_is_swapped pm_is_swapped an_is_swapped cd_is_swapped ct_is_swapped), sl_is_swapped⟩) (c_is_swapped : PySem.W.codeIn K cd_is_swapped "is_swapped" = true) (k_is_swapped : PySem.W.keepIn K (.ref a_is_swapped) = true) (x_is_rolled : PySem.W.nsIn K mainGlobals "is_rolled" = some (some (.ref a_is_rolled))) (l_is_rolled : K.lookup a_is_rolled = some ⟨oc_is_rolled, od_is_rolled, .func (PySem.W.fnOf "is_rolled" "is_rolled" (defArgs s_is_rolled) (defBody s_is_rolled) (defScope s_is_rolled) .none kV_is_rolled dc_is_rolled pm_is_rolled an_is_rolled cd_is_rolled ct_is_rolled), sl_is_rolled⟩) (c_is_rolled : PySem.W.codeIn K cd_is_rolled "is_rolled" = true) (k_is_rolled : PySem.W.keepIn K (.ref a_is_rolled) = true) (x_is_whole : PySem.W.nsIn K mainGlobals "is_whole" = some (some (.ref a_is_whole))) (l_is_whole : K.lookup a_is_whole = some ⟨oc_is_whole, od_is_whole, .func (PySem.W.fnOf "is_whole" "is_whole" (defArgs s_is_whole) (defBody s_is_whole) (defScope s_is_whole) .none kV_is_whole dc_is_whole pm_is_whole an_is_whole cd_is_whole ct_is_whole), sl_is_whole⟩) (c_is_whole : PySem.W.codeIn K cd_is_whole "is_whole" = true) (k_is_whole : PySem.W.keepIn K (.ref a_is_whole) = true) (x_is_mirrored : PySem.W.nsIn K mainGlobals "is_mirrored" = some (some (.ref a_is_mirrored))) (l_is_mirrored : K.lookup a_is_mirrored = some ⟨oc_is_mirrored, od_is_mirrored, .func (PySem.W.fnOf "is_mirrored" "is_mirrored" (defArgs s_is_mirrored) (defBody s_is_mirrored) (defScope s_is_mirrored) .none kV_is_mirrored dc_is_mirrored pm_is_mirrored an_is_mirrored cd_is_mirrored ct_is_mirrored), sl_is_mirrored⟩) (c_is_mirrored : PySem.W.codeIn K cd_is_mirrored "is_mirrored" = true) (k_is_mirrored : PySem.W.keepIn K (.ref a_is_mirrored) = true) (x_is_crossed : PySem.W.nsIn K mainGlobals "is_crossed" = some (some (.ref a_is_crossed))) (l_is_crossed : K.lookup a_is_crossed = some ⟨oc_is_crossed, od_is_crossed, .func (PySem.W.fnOf "is_crossed" "is_crossed" (defArgs s_is_crossed) (defBody s_is_crossed) (defScope s_is_crossed) .none kV_is_crossed dc_is_crossed pm_is_crossed an_is_crossed cd_is_crossed ct_is_crossed), sl_is_crossed⟩) (c_is_crossed : PySem.W.codeIn K cd_is_crossed "is_crossed" = true) (k_is_crossed : PySem.W.keepIn K (.ref a_is_crossed) = true) (x_count_swapped : PySem.W.nsIn K mainGlobals "count_swapped" = some (some (.ref a_count_swapped))) (l_count_swapped : K.lookup a_count_swapped = some ⟨oc_count_swapped, od_count_swapped, .func (PySem.W.fnOf "count_swapped" "count_swapped" (defArgs s_count_swapped) (defBody s_count_swapped) (defScope s_count_swapped) .none kV_count_swapped dc_count_swapped pm_count_swapped an_count_swapped cd_count_swapped ct_count_swapped), sl_count_swapped⟩) (c_count_swapped : PySem.W.codeIn K cd_count_swapped "count_swapped" = true) (k_count_swapped : PySem.W.keepIn K (.ref a_count_swapped) = true) (x_count_rolled : PySem.W.nsIn K mainGlobals "count_rolled" = some (some (.ref a_count_rolled))) (l_count_rolled : K.lookup a_count_rolled = some ⟨oc_count_rolled, od_count_rolled, .func (PySem.W.fnOf "count_rolled" "count_rolled" (defArgs s_count_rolled) (defBody s_count_rolled) (defScope s_count_rolled) .none kV_count_rolled dc_count_rolled pm_count_rolled an_count_rolled cd_count_rolled ct_count_rolled), sl_count_rolled⟩) (c_count_rolled : PySem.W.codeIn K cd_count_rolled "count_rolled" = true) (k_count_rolled : PySem.W.keepIn K (.ref a_count_rolled) = true) (x_count_whole : PySem.W.nsIn K mainGlobals "count_whole" = some (some (.ref a_count_whole))) (l_count_whole : K.lookup a_count_whole = some ⟨oc_count_whole, od_count_whole, .func (PySem.W.fnOf "count_whole" "count_whole" (defArgs s_count_whole) (defBody s_count_whole) (defScope s_count_whole) .none kV_count_whole dc_count_whole pm_count_whole an_count_whole cd_count_whole ct_count_whole), sl_count_whole⟩) (c_count_whole : PySem.W.codeIn K cd_count_whole "count_whole" = true) (k_count_whole : PySem.W.keepIn K (.ref a_count_whole) = true) (x_count_mirrored : PySem.W.nsIn K mainGlobals "count_mirrored" = some (some (.ref a_count_mirrored))) (l_count_mirrored : K.lookup a_count_mirrored = some ⟨oc_count_mirrored, od_count_mirrored, .func (PySem.W.fnOf "count_mirrored" "count_mirrored" (defArgs s_count_mirrored) (defBody s_count_mirrored) (defScope s_count_mirrored) .none kV_count_mirrored dc_count_mirrored pm_count_mirrored an_count_mirrored cd_count_mirrored ct_count_mirrored), sl_count_mirrored⟩) (c_count_mirrored : PySem.W.codeIn K cd_count_mirrored "count_mirrored" = true) (k_count_mirrored : PySem.W.keepIn K (.ref a_count_mirrored) = true) (x_count_crossed : PySem.W.nsIn K mainGlobals "count_crossed" = some (some (.ref a_count_crossed))) (l_count_crossed : K.lookup a_count_crossed = some ⟨oc_count_crossed, od_count_crossed, .func (PySem.W.fnOf "count_crossed" "count_crossed" (defArgs s_count_crossed) (defBody s_count_crossed) (defScope s_count_crossed) .none kV_count_crossed dc_count_crossed pm_count_crossed an_count_crossed cd_count_crossed ct_count_crossed), sl_count_crossed⟩) (c_count_crossed : PySem.W.codeIn K cd_count_crossed "count_crossed" = true) (k_count_crossed : PySem.W.keepIn K (.ref a_count_crossed) = true) (x_those_swapped : PySem.W.nsIn K mainGlobals "those_swapped" = some (some (.ref a_those_swapped))) (l_those_swapped : K.lookup a_those_swapped = some ⟨oc_those_swapped, od_those_swapped, .func (PySem.W.fnOf "those_swapped" "those_swapped" (defArgs s_those_swapped) (defBody s_those_swapped) (defScope s_those_swapped) .none kV_those_swapped dc_those_swapped pm_those_swapped an_those_swapped cd_those_swapped ct_those_swapped), sl_those_swapped⟩) (c_those_swapped : PySem.W.codeIn K cd_those_swapped "those_swapped" = true) (k_those_swapped : PySem.W.keepIn K (.ref a_those_swapped) = true) (x_lots_moved : PySem.W.nsIn K mainGlobals "lots_moved" = some (some (.ref a_lots_moved))) (l_lots_moved : K.lookup a_lots_moved = some ⟨oc_lots_moved, od_lots_moved, .func (PySem.W.fnOf "lots_moved" "lots_moved" (defArgs s_lots_moved) (defBody s_lots_moved) (defScope s_lots_moved) .none kV_lots_moved dc_lots_moved pm_lots_moved an_lots_moved cd_lots_moved ct_lots_moved), sl_lots_moved⟩) (c_lots_moved : PySem.W.codeIn K cd_lots_moved "lots_moved" = true) (k_lots_moved : PySem.W.keepIn K (.ref a_lots_moved) = true) (x_count_lots : PySem.W.nsIn K mainGlobals "count_lots" = some (some (.ref a_count_lots))) (l_count_lots : K.lookup a_count_lots = some ⟨oc_count_lots, od_count_lots, .func (PySem.W.fnOf "count_lots" "count_lots" (defArgs s_count_lots) (defBody s_count_lots) (defScope s_count_lots) .none kV_count_lots dc_count_lots pm_count_lots an_count_lots cd_count_lots ct_count_lots), sl_count_lots⟩) (c_count_lots : PySem.W.codeIn K cd_count_lots "count_lots" = true) (k_count_lots : PySem.W.keepIn K (.ref a_count_lots) = true) (x_ulaw_refill : PySem.W.nsIn K mainGlobals "_law_refill" = some (some (.ref a_ulaw_refill))) (l_ulaw_refill : K.lookup a_ulaw_refill = some ⟨oc_ulaw_refill, od_ulaw_refill, .func (PySem.W.fnOf "_law_refill" "_law_refill" (defArgs s_ulaw_refill) (defBody s_ulaw_refill) (defScope s_ulaw_refill) .none kV_ulaw_refill dc_ulaw_refill pm_ulaw_refill an_ulaw_refill cd_ulaw_refill ct_ulaw_refill), sl_ulaw_refill⟩) (c_ulaw_refill : PySem.W.codeIn K cd_ulaw_refill "_law_refill" = true) (k_ulaw_refill : PySem.W.keepIn K (.ref a_ulaw_refill) = true) (x_ulaw_draw : PySem.W.nsIn K mainGlobals "_law_draw" = some (some (.ref a_ulaw_draw))) (l_ulaw_draw : K.lookup a_ulaw_draw = some ⟨oc_ulaw_draw, od_ulaw_draw, .func (PySem.W.fnOf "_law_draw" "_law_draw" (defArgs s_ulaw_draw) (defBody s_ulaw_draw) (defScope s_ulaw_draw) .none kV_ulaw_draw dc_ulaw_draw pm_ulaw_draw an_ulaw_draw cd_ulaw_draw ct_ulaw_draw), sl_ulaw_draw⟩) (c_ulaw_draw : PySem.W.codeIn K cd_ulaw_draw "_law_draw" = true) (k_ulaw_draw : PySem.W.keepIn K (.ref a_ulaw_draw) = true) (x_ulaw_exact : PySem.W.nsIn K mainGlobals "_law_exact" = some (some (.ref a_ulaw_exact))) (l_ulaw_exact : K.lookup a_ulaw_exact = some ⟨oc_ulaw_exact, od_ulaw_exact, .func (PySem.W.fnOf "_law_exact" "_law_exact" (defArgs s_ulaw_exact) (defBody s_ulaw_exact) (defScope s_ulaw_exact) .none kV_ulaw_exact dc_ulaw_exact pm_ulaw_exact an_ulaw_exact cd_ulaw_exact ct_ulaw_exact), sl_ulaw_exact⟩) (c_ulaw_exact : PySem.W.codeIn K cd_ulaw_exact "_law_exact" = true) (k_ulaw_exact : PySem.W.keepIn K (.ref a_ulaw_exact) = true) (x_ulaw_heaps : PySem.W.nsIn K mainGlobals "_law_heaps" = some (some (.ref a_ulaw_heaps))) (l_ulaw_heaps : K.lookup a_ulaw_heaps = some ⟨oc_ulaw_heaps, od_ulaw_heaps, .func (PySem.W.fnOf "_law_heaps" "_law_heaps" (defArgs s_ulaw_heaps) (defBody s_ulaw_heaps) (defScope s_ulaw_heaps) .none kV_ulaw_heaps dc_ulaw_heaps pm_ulaw_heaps an_ulaw_heaps cd_ulaw_heaps ct_ulaw_heaps), sl_ulaw_heaps⟩) (c_ulaw_heaps : PySem.W.codeIn K cd_ulaw_heaps "_law_heaps" = true) (k_ulaw_heaps : PySem.W.keepIn K (.ref a_ulaw_heaps) = true) (x_ulaw_box : PySem.W.nsIn K mainGlobals "_law_box" = some (some (.ref a_ulaw_box))) (l_ulaw_box : K.lookup a_ulaw_box = some ⟨oc_ulaw_box, od_ulaw_box, .func (PySem.W.fnOf "_law_box" "_law_box" (defArgs s_ulaw_box) (defBody s_ulaw_box) (defScope s_ulaw_box) .none kV_ulaw_box dc_ulaw_box pm_ulaw_box an_ulaw_box cd_ulaw_box ct_ulaw_box), sl_ulaw_box⟩) (c_ulaw_box : PySem.W.codeIn K cd_ulaw_box "_law_box" = true) (k_ulaw_box : PySem.W.keepIn K (.ref a_ulaw_box) = true) (x_ulaw_swapped : PySem.W.nsIn K mainGlobals "_law_swapped" = some (some (.ref a_ulaw_swapped))) (l_ulaw_swapped : K.lookup a_ulaw_swapped = some ⟨oc_ulaw_swapped, od_ulaw_swapped, .func (PySem.W.fnOf "_law_swapped" "_law_swapped" (defArgs s_ulaw_swapped) (defBody s_ulaw_swapped) (defScope s_ulaw_swapped) .none kV_ulaw_swapped dc_ulaw_swapped pm_ulaw_swapped an_ulaw_swapped cd_ulaw_swapped ct_ulaw_swapped), sl_ulaw_swapped⟩) (c_ulaw_swapped : PySem.W.codeIn K cd_ulaw_swapped "_law_swapped" = true) (k_ulaw_swapped : PySem.W.keepIn K (.ref a_ulaw_swapped) = true) (x_ulaw_rolled : PySem.W.nsIn K mainGlobals "_law_rolled" = some (some (.ref a_ulaw_rolled))) (l_ulaw_rolled : K.lookup a_ulaw_rolled = some ⟨oc_ulaw_rolled, od_ulaw_rolled, .func (PySem.W.fnOf "_law_rolled" "_law_rolled" (defArgs s_ulaw_rolled) (defBody s_ulaw_rolled) (defScope s_ulaw_rolled) .none kV_ulaw_rolled dc_ulaw_rolled pm_ulaw_rolled an_ulaw_rolled cd_ulaw_rolled ct_ulaw_rolled), sl_ulaw_rolled⟩) (c_ulaw_rolled : PySem.W.codeIn K cd_ulaw_rolled "_law_rolled" = true) (k_ulaw_rolled : PySem.W.keepIn K (.ref a_ulaw_rolled) = true) (x_ulaw_lacks : PySem.W.nsIn K mainGlobals "_law_lacks" = some (some (.ref a_ulaw_lacks))) (l_ulaw_lacks : K.lookup a_ulaw_lacks = some ⟨oc_ulaw_lacks, od_ulaw_lacks, .func (PySem.W.fnOf "_law_lacks" "_law_lacks" (defArgs s_ulaw_lacks) (defBody s_ulaw_lacks) (defScope s_ulaw_lacks) .none kV_ulaw_lacks dc_ulaw_lacks pm_ulaw_lacks an_ulaw_lacks cd_ulaw_lacks ct_ulaw_lacks), sl_ulaw_lacks⟩) (c_ulaw_lacks : PySem.W.codeIn K cd_ulaw_lacks "_law_lacks" = true) (k_ulaw_lacks : PySem.W.keepIn K (.ref a_ulaw_lacks) = true) (x_ulaw_lot : PySem.W.nsIn K mainGlobals "_law_lot" = some (some (.ref a_ulaw_lot))) (l_ulaw_lot : K.lookup a_ulaw_lot = some ⟨oc_ulaw_lot, od_ulaw_lot, .func (PySem.W.fnOf "_law_lot" "_law_lot" (defArgs s_ulaw_lot) (defBody s_ulaw_lot) (defScope s_ulaw_lot) .none kV_ulaw_lot dc_ulaw_lot pm_ulaw_lot an_ulaw_lot cd_ulaw_lot ct_ulaw_lot), sl_ulaw_lot⟩) (c_ulaw_lot : PySem.W.codeIn K cd_ulaw_lot "_law_lot" = true) (k_ulaw_lot : PySem.W.keepIn K (.ref a_ulaw_lot) = true) (x_law : PySem.W.nsIn K mainGlobals "law" = some (some (.ref a_law))) (l_law : K.lookup a_law = some ⟨oc_law, od_law, .func (PySem.W.fnOf "law" "law" (defArgs s_law) (defBody s_law) (defScope s_law) .none kV_law dc_law pm_law an_law cd_law ct_law), sl_law⟩) (c_law : PySem.W.codeIn K cd_law "law" = true) (k_law : PySem.W.keepIn K (.ref a_law) = true) (z_all : PySem.W.nsIn K mainGlobals "all" = some none) (z_bool : PySem.W.nsIn K mainGlobals "bool" = some none) (z_enumerate : PySem.W.nsIn K mainGlobals "enumerate" = some none) (z_int : PySem.W.nsIn K mainGlobals "int" = some none) (z_isinstance : PySem.W.nsIn K mainGlobals "isinstance" = some none) (z_len : PySem.W.nsIn K mainGlobals "len" = some none) (z_list : PySem.W.nsIn K mainGlobals "list" = some none) (z_min : PySem.W.nsIn K mainGlobals "min" = some none) (z_range : PySem.W.nsIn K mainGlobals "range" = some none) (z_reversed : PySem.W.nsIn K mainGlobals "reversed" = some none) (z_sorted : PySem.W.nsIn K mainGlobals "sorted" = some none) (z_str : PySem.W.nsIn K mainGlobals "str" = some none) (z_tuple : PySem.W.nsIn K mainGlobals "tuple" = some none) :
    ∃ fd : FuncData, (∀ (s : Shared) (v : Value), BindsTo s fd ⟨[v], []⟩ [("script", v)]) ∧ ∀ base : Heap, K.In base → base.Ns mainGlobals mg → FnOk l.prog w K mg base CX0 13 fa fd ["script"] (spLaw K) := by
  have e := hfa.symm.trans (PySem.W.mg_of X G x_law)
  cases e
  have bn : ∀ x, x ∈ bnames → mg x = none := by
    intro x hx
    simp only [bnames, List.mem_cons, List.mem_nil_iff, or_false] at hx
    rcases hx with rfl | rfl | rfl | rfl | rfl | rfl | rfl | rfl | rfl | rfl | rfl | rfl | rfl
    · exact PySem.W.mg_none_of X G z_all
    · exact PySem.W.mg_none_of X G z_bool
    · exact PySem.W.mg_none_of X G z_enumerate
    · exact PySem.W.mg_none_of X G z_int
    · exact PySem.W.mg_none_of X G z_isinstance
    · exact PySem.W.mg_none_of X G z_len
    · exact PySem.W.mg_none_of X G z_list
    · exact PySem.W.mg_none_of X G z_min
    · exact PySem.W.mg_none_of X G z_range
    · exact PySem.W.mg_none_of X G z_reversed
    · exact PySem.W.mg_none_of X G z_sorted
    · exact PySem.W.mg_none_of X G z_str
    · exact PySem.W.mg_none_of X G z_tuple
  have F_lines_below' := fun_mk (st := s_lines_below) l_lines_below c_lines_below k_lines_below
  have b_lines_below := F_lines_below'.binds (ps := ["upper", "c"]) fun _ _ _ _ _ _ us hl => match us, hl with | [_, _], _ => rfl
  have F_heaps' := fun_mk (st := s_heaps) l_heaps c_heaps k_heaps
  have b_heaps := F_heaps'.binds (ps := ["a", "b", "c"]) fun _ _ _ _ _ _ us hl => match us, hl with | [_, _, _], _ => rfl
  have F_count_heaps' := fun_mk (st := s_count_heaps) l_count_heaps c_count_heaps k_count_heaps
  have b_count_heaps := F_count_heaps'.binds (ps := ["a", "b", "c"]) fun _ _ _ _ _ _ us hl => match us, hl with | [_, _, _], _ => rfl
  have F_cubes' := fun_mk (st := s_cubes) l_cubes c_cubes k_cubes
  have b_cubes := F_cubes'.binds (ps := ["rows"]) fun _ _ _ _ _ _ us hl => match us, hl with | [_], _ => rfl
  have F_from_cubes' := fun_mk (st := s_from_cubes) l_from_cubes c_from_cubes k_from_cubes
  have b_from_cubes := F_from_cubes'.binds (ps := ["cells", "a", "b"]) fun _ _ _ _ _ _ us hl => match us, hl with | [_, _, _], _ => rfl
  have F_moved' := fun_mk (st := s_moved) l_moved c_moved k_moved
  have b_moved := F_moved'.binds (ps := ["cells", "order"]) fun _ _ _ _ _ _ us hl => match us, hl with | [_, _], _ => rfl
  have F_swapped' := fun_mk (st := s_swapped) l_swapped c_swapped k_swapped
  have b_swapped := F_swapped'.binds (ps := ["rows"]) fun _ _ _ _ _ _ us hl => match us, hl with | [_], _ => rfl
  have F_rolled' := fun_mk (st := s_rolled) l_rolled c_rolled k_rolled
  have b_rolled := F_rolled'.binds (ps := ["rows", "c"]) fun _ _ _ _ _ _ us hl => match us, hl with | [_, _], _ => rfl
  have F_filled_up' := fun_mk (st := s_filled_up) l_filled_up c_filled_up k_filled_up
  have b_filled_up := F_filled_up'.binds (ps := ["rows", "c"]) fun _ _ _ _ _ _ us hl => match us, hl with | [_, _], _ => rfl
  have F_choose' := fun_mk (st := s_choose) l_choose c_choose k_choose
  have b_choose := F_choose'.binds (ps := ["many", "some"]) fun _ _ _ _ _ _ us hl => match us, hl with | [_, _], _ => rfl
  have F_is_swapped' := fun_mk (st := s_is_swapped) l_is_swapped c_is_swapped k_is_swapped
  have b_is_swapped := F_is_swapped'.binds (ps := ["rows"]) fun _ _ _ _ _ _ us hl => match us, hl with | [_], _ => rfl
  have F_is_rolled' := fun_mk (st := s_is_rolled) l_is_rolled c_is_rolled k_is_rolled
  have b_is_rolled := F_is_rolled'.binds (ps := ["rows", "c"]) fun _ _ _ _ _ _ us hl => match us, hl with | [_, _], _ => rfl
  have F_is_whole' := fun_mk (st := s_is_whole) l_is_whole c_is_whole k_is_whole
  have b_is_whole := F_is_whole'.binds (ps := ["rows", "c"]) fun _ _ _ _ _ _ us hl => match us, hl with | [_, _], _ => rfl
  have F_is_mirrored' := fun_mk (st := s_is_mirrored) l_is_mirrored c_is_mirrored k_is_mirrored
  have b_is_mirrored := F_is_mirrored'.binds (ps := ["rows", "c"]) fun _ _ _ _ _ _ us hl => match us, hl with | [_, _], _ => rfl
  have F_is_crossed' := fun_mk (st := s_is_crossed) l_is_crossed c_is_crossed k_is_crossed
  have b_is_crossed := F_is_crossed'.binds (ps := ["rows", "c"]) fun _ _ _ _ _ _ us hl => match us, hl with | [_, _], _ => rfl
  have F_count_swapped' := fun_mk (st := s_count_swapped) l_count_swapped c_count_swapped k_count_swapped
  have b_count_swapped := F_count_swapped'.binds (ps := ["a", "c"]) fun _ _ _ _ _ _ us hl => match us, hl with | [_, _], _ => rfl
  have F_count_rolled' := fun_mk (st := s_count_rolled) l_count_rolled c_count_rolled k_count_rolled
  have b_count_rolled := F_count_rolled'.binds (ps := ["n"]) fun _ _ _ _ _ _ us hl => match us, hl with | [_], _ => rfl
  have F_count_whole' := fun_mk (st := s_count_whole) l_count_whole c_count_whole k_count_whole
  have b_count_whole := F_count_whole'.binds (ps := ["n"]) fun _ _ _ _ _ _ us hl => match us, hl with | [_], _ => rfl
  have F_count_mirrored' := fun_mk (st := s_count_mirrored) l_count_mirrored c_count_mirrored k_count_mirrored
  have b_count_mirrored := F_count_mirrored'.binds (ps := ["a", "b", "c"]) fun _ _ _ _ _ _ us hl => match us, hl with | [_, _, _], _ => rfl
  have F_count_crossed' := fun_mk (st := s_count_crossed) l_count_crossed c_count_crossed k_count_crossed
  have b_count_crossed := F_count_crossed'.binds (ps := ["a", "c"]) fun _ _ _ _ _ _ us hl => match us, hl with | [_, _], _ => rfl
  have F_those_swapped' := fun_mk (st := s_those_swapped) l_those_swapped c_those_swapped k_those_swapped
  have b_those_swapped := F_those_swapped'.binds (ps := ["a", "c"]) fun _ _ _ _ _ _ us hl => match us, hl with | [_, _], _ => rfl
  have F_lots_moved' := fun_mk (st := s_lots_moved) l_lots_moved c_lots_moved k_lots_moved
  have b_lots_moved := F_lots_moved'.binds (ps := ["rows", "c"]) fun _ _ _ _ _ _ us hl => match us, hl with | [_, _], _ => rfl
  have F_count_lots' := fun_mk (st := s_count_lots) l_count_lots c_count_lots k_count_lots
  have b_count_lots := F_count_lots'.binds (ps := ["n"]) fun _ _ _ _ _ _ us hl => match us, hl with | [_], _ => rfl
  have F_ulaw_refill' := fun_mk (st := s_ulaw_refill) l_ulaw_refill c_ulaw_refill k_ulaw_refill
  have b_ulaw_refill := F_ulaw_refill'.binds (ps := ["script", "k"]) fun _ _ _ _ _ _ us hl => match us, hl with | [_, _], _ => rfl
  have F_ulaw_draw' := fun_mk (st := s_ulaw_draw) l_ulaw_draw c_ulaw_draw k_ulaw_draw
  have b_ulaw_draw := F_ulaw_draw'.binds (ps := ["state", "script", "size"]) fun _ _ _ _ _ _ us hl => match us, hl with | [_, _, _], _ => rfl
  have F_ulaw_exact' := fun_mk (st := s_ulaw_exact) l_ulaw_exact c_ulaw_exact k_ulaw_exact
  have b_ulaw_exact := F_ulaw_exact'.binds (ps := ["first", "second"]) fun _ _ _ _ _ _ us hl => match us, hl with | [_, _], _ => rfl
  have F_ulaw_heaps' := fun_mk (st := s_ulaw_heaps) l_ulaw_heaps c_ulaw_heaps k_ulaw_heaps
  have b_ulaw_heaps := F_ulaw_heaps'.binds (ps := ["a", "b", "c"]) fun _ _ _ _ _ _ us hl => match us, hl with | [_, _, _], _ => rfl
  have F_ulaw_box' := fun_mk (st := s_ulaw_box) l_ulaw_box c_ulaw_box k_ulaw_box
  have b_ulaw_box := F_ulaw_box'.binds (ps := ["state", "script"]) fun _ _ _ _ _ _ us hl => match us, hl with | [_, _], _ => rfl
  have F_ulaw_swapped' := fun_mk (st := s_ulaw_swapped) l_ulaw_swapped c_ulaw_swapped k_ulaw_swapped
  have b_ulaw_swapped := F_ulaw_swapped'.binds (ps := ["rows"]) fun _ _ _ _ _ _ us hl => match us, hl with | [_], _ => rfl
  have F_ulaw_rolled' := fun_mk (st := s_ulaw_rolled) l_ulaw_rolled c_ulaw_rolled k_ulaw_rolled
  have b_ulaw_rolled := F_ulaw_rolled'.binds (ps := ["rows", "c"]) fun _ _ _ _ _ _ us hl => match us, hl with | [_, _], _ => rfl
  have F_ulaw_lacks' := fun_mk (st := s_ulaw_lacks) l_ulaw_lacks c_ulaw_lacks k_ulaw_lacks
  have b_ulaw_lacks := F_ulaw_lacks'.binds (ps := ["rows", "c"]) fun _ _ _ _ _ _ us hl => match us, hl with | [_, _], _ => rfl
  have F_ulaw_lot' := fun_mk (st := s_ulaw_lot) l_ulaw_lot c_ulaw_lot k_ulaw_lot
  have b_ulaw_lot := F_ulaw_lot'.binds (ps := ["rows", "c"]) fun _ _ _ _ _ _ us hl => match us, hl with | [_, _], _ => rfl
  have F_law' := fun_mk (st := s_law) l_law c_law k_law
  have b_law := F_law'.binds (ps := ["script"]) fun _ _ _ _ _ _ us hl => match us, hl with | [_], _ => rfl
  refine ⟨PySem.W.fnOf "law" "law" (defArgs s_law) (defBody s_law) (defScope s_law) .none kV_law dc_law pm_law an_law cd_law ct_law, fun s v => .of_eq rfl, fun base _ _ => ?_⟩
  have C_lines_below := ok_lines_below (P := l.prog) (w := w) (base := base) F_lines_below' (PySem.W.mg_of X G x_lines_below) b_lines_below bn
  have C_heaps := ok_heaps (P := l.prog) (w := w) (base := base) F_heaps' (PySem.W.mg_of X G x_heaps) b_heaps bn C_lines_below
  have C_count_heaps := ok_count_heaps (P := l.prog) (w := w) (base := base) F_count_heaps' (PySem.W.mg_of X G x_count_heaps) b_count_heaps bn
  have C_cubes := ok_cubes (P := l.prog) (w := w) (base := base) F_cubes' (PySem.W.mg_of X G x_cubes) b_cubes bn
  have C_from_cubes := ok_from_cubes (P := l.prog) (w := w) (base := base) F_from_cubes' (PySem.W.mg_of X G x_from_cubes) b_from_cubes bn
  have C_moved := ok_moved (P := l.prog) (w := w) (base := base) F_moved' (PySem.W.mg_of X G x_moved) b_moved bn
  have C_swapped := ok_swapped (P := l.prog) (w := w) (base := base) F_swapped' (PySem.W.mg_of X G x_swapped) b_swapped bn
  have C_rolled := ok_rolled (P := l.prog) (w := w) (base := base) F_rolled' (PySem.W.mg_of X G x_rolled) b_rolled bn C_cubes C_moved C_from_cubes
  have C_filled_up := ok_filled_up (P := l.prog) (w := w) (base := base) F_filled_up' (PySem.W.mg_of X G x_filled_up) b_filled_up bn
  have C_choose := ok_choose (P := l.prog) (w := w) (base := base) F_choose' (PySem.W.mg_of X G x_choose) b_choose bn
  have C_is_swapped := ok_is_swapped (P := l.prog) (w := w) (base := base) F_is_swapped' (PySem.W.mg_of X G x_is_swapped) b_is_swapped bn C_swapped
  have C_is_rolled := ok_is_rolled (P := l.prog) (w := w) (base := base) F_is_rolled' (PySem.W.mg_of X G x_is_rolled) b_is_rolled bn C_rolled
  have C_is_whole := ok_is_whole (P := l.prog) (w := w) (base := base) F_is_whole' (PySem.W.mg_of X G x_is_whole) b_is_whole C_is_rolled C_is_swapped
  have C_is_mirrored := ok_is_mirrored (P := l.prog) (w := w) (base := base) F_is_mirrored' (PySem.W.mg_of X G x_is_mirrored) b_is_mirrored C_filled_up
  have C_is_crossed := ok_is_crossed (P := l.prog) (w := w) (base := base) F_is_crossed' (PySem.W.mg_of X G x_is_crossed) b_is_crossed bn C_filled_up C_swapped
  have C_count_swapped := ok_count_swapped (P := l.prog) (w := w) (base := base) F_count_swapped' (PySem.W.mg_of X G x_count_swapped) b_count_swapped bn
  have C_count_rolled := ok_count_rolled (P := l.prog) (w := w) (base := base) F_count_rolled' (PySem.W.mg_of X G x_count_rolled) b_count_rolled bn
  have C_count_whole := ok_count_whole (P := l.prog) (w := w) (base := base) F_count_whole' (PySem.W.mg_of X G x_count_whole) b_count_whole bn
  have C_count_mirrored := ok_count_mirrored (P := l.prog) (w := w) (base := base) F_count_mirrored' (PySem.W.mg_of X G x_count_mirrored) b_count_mirrored bn C_count_heaps
  have C_count_crossed := ok_count_crossed (P := l.prog) (w := w) (base := base) F_count_crossed' (PySem.W.mg_of X G x_count_crossed) b_count_crossed bn C_choose
  have C_those_swapped := ok_those_swapped (P := l.prog) (w := w) (base := base) F_those_swapped' (PySem.W.mg_of X G x_those_swapped) b_those_swapped C_heaps C_is_swapped
  have C_lots_moved := ok_lots_moved (P := l.prog) (w := w) (base := base) F_lots_moved' (PySem.W.mg_of X G x_lots_moved) b_lots_moved bn C_swapped C_rolled
  have C_count_lots := ok_count_lots (P := l.prog) (w := w) (base := base) F_count_lots' (PySem.W.mg_of X G x_count_lots) b_count_lots C_count_rolled C_count_heaps C_count_swapped
  have C_ulaw_refill := ok_ulaw_refill (P := l.prog) (w := w) (base := base) F_ulaw_refill' (PySem.W.mg_of X G x_ulaw_refill) b_ulaw_refill bn
  have C_ulaw_draw := ok_ulaw_draw (P := l.prog) (w := w) (base := base) F_ulaw_draw' (PySem.W.mg_of X G x_ulaw_draw) b_ulaw_draw bn C_ulaw_refill
  have C_ulaw_exact := ok_ulaw_exact (P := l.prog) (w := w) (base := base) F_ulaw_exact' (PySem.W.mg_of X G x_ulaw_exact) b_ulaw_exact bn 12
  have C_ulaw_heaps := ok_ulaw_heaps (P := l.prog) (w := w) (base := base) F_ulaw_heaps' (PySem.W.mg_of X G x_ulaw_heaps) b_ulaw_heaps bn
  have C_ulaw_box := ok_ulaw_box (P := l.prog) (w := w) (base := base) F_ulaw_box' (PySem.W.mg_of X G x_ulaw_box) b_ulaw_box C_ulaw_draw
  have C_ulaw_swapped := ok_ulaw_swapped (P := l.prog) (w := w) (base := base) F_ulaw_swapped' (PySem.W.mg_of X G x_ulaw_swapped) b_ulaw_swapped bn
  have C_ulaw_rolled := ok_ulaw_rolled (P := l.prog) (w := w) (base := base) F_ulaw_rolled' (PySem.W.mg_of X G x_ulaw_rolled) b_ulaw_rolled bn
  have C_ulaw_lacks := ok_ulaw_lacks (P := l.prog) (w := w) (base := base) F_ulaw_lacks' (PySem.W.mg_of X G x_ulaw_lacks) b_ulaw_lacks bn
  have C_ulaw_lot := ok_ulaw_lot (P := l.prog) (w := w) (base := base) F_ulaw_lot' (PySem.W.mg_of X G x_ulaw_lot) b_ulaw_lot bn C_ulaw_swapped C_ulaw_rolled
  exact (fn_law (P := l.prog) (w := w) (base := base) F_law' (PySem.W.mg_of X G x_law) b_law bn C_ulaw_box C_ulaw_heaps C_ulaw_lacks C_count_mirrored C_ulaw_exact C_ulaw_draw C_ulaw_swapped C_those_swapped C_count_swapped C_count_crossed C_is_swapped C_is_mirrored C_is_crossed C_ulaw_rolled C_count_rolled C_count_whole C_ulaw_lot C_lots_moved C_is_rolled C_is_whole C_count_lots C_count_heaps).imp (sp_law T)
end K89
end VS
open PySem PySem.W PyProof.Rows
set_option maxHeartbeats 0 in
theorem PySem.Challenge.cw_sumwright_k89_whole_plane_partitions_tha_holds : PySem.Challenge.rw_sumwright_k89_whole_plane_partitions_tha.Holds := by
  w_on; o_law; k_head; (case hw => w_witness2)
  k_fill
  refine L2.walk_of (l := PySem.Challenge.rw_sumwright_k89_whole_plane_partitions_tha) (n := 63) (k := 13) (x := "script") (CX := fun _ => L2.CX0) (sp := fun w => VS.K89.spLaw _) rfl (by decide) rfl ⟨rfl, by decide, by decide⟩ (fun w h Y => PySem.W.kIn_of Y) ?F (fun _ _ a ns hl _ hS => ⟨a, ns, rfl, hS, hl, fun _ => rfl⟩) (fun _ _ _ _ _ h => h)
  case F =>
    intro w mg fa h KX G hmg
    refine' VS.K89.all_mk VS.K89.law_true KX G hmg ?x_lines_below ?l_lines_below ?c_lines_below ?k_lines_below ?x_heaps ?l_heaps ?c_heaps ?k_heaps ?x_count_heaps ?l_count_heaps ?c_count_heaps ?k_count_heaps ?x_cubes ?l_cubes ?c_cubes ?k_cubes ?x_from_cubes ?l_from_cubes ?c_from_cubes ?k_from_cubes ?x_moved ?l_moved ?c_moved ?k_moved ?x_swapped ?l_swapped ?c_swapped ?k_swapped ?x_rolled ?l_rolled ?c_rolled ?k_rolled ?x_filled_up ?l_filled_up ?c_filled_up ?k_filled_up ?x_choose ?l_choose ?c_choose ?k_choose ?x_is_swapped ?l_is_swapped ?c_is_swapped ?k_is_swapped ?x_is_rolled ?l_is_rolled ?c_is_rolled ?k_is_rolled ?x_is_whole ?l_is_whole ?c_is_whole ?k_is_whole ?x_is_mirrored ?l_is_mirrored ?c_is_mirrored ?k_is_mirrored ?x_is_crossed ?l_is_crossed ?c_is_crossed ?k_is_crossed ?x_count_swapped ?l_count_swapped ?c_count_swapped ?k_count_swapped ?x_count_rolled ?l_count_rolled ?c_count_rolled ?k_count_rolled ?x_count_whole ?l_count_whole ?c_count_whole ?k_count_whole ?x_count_mirrored ?l_count_mirrored ?c_count_mirrored ?k_count_mirrored ?x_count_crossed ?l_count_crossed ?c_count_crossed ?k_count_crossed ?x_those_swapped ?l_those_swapped ?c_those_swapped ?k_those_swapped ?x_lots_moved ?l_lots_moved ?c_lots_moved ?k_lots_moved ?x_count_lots ?l_count_lots ?c_count_lots ?k_count_lots ?x_ulaw_refill ?l_ulaw_refill ?c_ulaw_refill ?k_ulaw_refill ?x_ulaw_draw ?l_ulaw_draw ?c_ulaw_draw ?k_ulaw_draw ?x_ulaw_exact ?l_ulaw_exact ?c_ulaw_exact ?k_ulaw_exact ?x_ulaw_heaps ?l_ulaw_heaps ?c_ulaw_heaps ?k_ulaw_heaps ?x_ulaw_box ?l_ulaw_box ?c_ulaw_box ?k_ulaw_box ?x_ulaw_swapped ?l_ulaw_swapped ?c_ulaw_swapped ?k_ulaw_swapped ?x_ulaw_rolled ?l_ulaw_rolled ?c_ulaw_rolled ?k_ulaw_rolled ?x_ulaw_lacks ?l_ulaw_lacks ?c_ulaw_lacks ?k_ulaw_lacks ?x_ulaw_lot ?l_ulaw_lot ?c_ulaw_lot ?k_ulaw_lot ?x_law ?l_law ?c_law ?k_law ?z_all ?z_bool ?z_enumerate ?z_int ?z_isinstance ?z_len ?z_list ?z_min ?z_range ?z_reversed ?z_sorted ?z_str ?z_tuple
    (case x_lines_below => k_is); (case l_lines_below => k_is); (case c_lines_below => k_is); (case k_lines_below => k_is); (case x_heaps => k_is); (case l_heaps => k_is); (case c_heaps => k_is); (case k_heaps => k_is); (case x_count_heaps => k_is); (case l_count_heaps => k_is); (case c_count_heaps => k_is); (case k_count_heaps => k_is); (case x_cubes => k_is); (case l_cubes => k_is); (case c_cubes => k_is); (case k_cubes => k_is); (case x_from_cubes => k_is); (case l_from_cubes => k_is); (case c_from_cubes => k_is); (case k_from_cubes => k_is); (case x_moved => k_is); (case l_moved => k_is); (case c_moved => k_is); (case k_moved => k_is); (case x_swapped => k_is); (case l_swapped => k_is); (case c_swapped => k_is); (case k_swapped => k_is); (case x_rolled => k_is); (case l_rolled => k_is); (case c_rolled => k_is); (case k_rolled => k_is); (case x_filled_up => k_is); (case l_filled_up => k_is); (case c_filled_up => k_is); (case k_filled_up => k_is); (case x_choose => k_is); (case l_choose => k_is); (case c_choose => k_is); (case k_choose => k_is); (case x_is_swapped => k_is); (case l_is_swapped => k_is); (case c_is_swapped => k_is); (case k_is_swapped => k_is); (case x_is_rolled => k_is); (case l_is_rolled => k_is); (case c_is_rolled => k_is); (case k_is_rolled => k_is); (case x_is_whole => k_is); (case l_is_whole => k_is); (case c_is_whole => k_is); (case k_is_whole => k_is); (case x_is_mirrored => k_is); (case l_is_mirrored => k_is); (case c_is_mirrored => k_is); (case k_is_mirrored => k_is); (case x_is_crossed => k_is); (case l_is_crossed => k_is); (case c_is_crossed => k_is); (case k_is_crossed => k_is); (case x_count_swapped => k_is); (case l_count_swapped => k_is); (case c_count_swapped => k_is); (case k_count_swapped => k_is); (case x_count_rolled => k_is); (case l_count_rolled => k_is); (case c_count_rolled => k_is); (case k_count_rolled => k_is); (case x_count_whole => k_is); (case l_count_whole => k_is); (case c_count_whole => k_is); (case k_count_whole => k_is); (case x_count_mirrored => k_is); (case l_count_mirrored => k_is); (case c_count_mirrored => k_is); (case k_count_mirrored => k_is); (case x_count_crossed => k_is); (case l_count_crossed => k_is); (case c_count_crossed => k_is); (case k_count_crossed => k_is); (case x_those_swapped => k_is); (case l_those_swapped => k_is); (case c_those_swapped => k_is); (case k_those_swapped => k_is); (case x_lots_moved => k_is); (case l_lots_moved => k_is); (case c_lots_moved => k_is); (case k_lots_moved => k_is); (case x_count_lots => k_is); (case l_count_lots => k_is); (case c_count_lots => k_is); (case k_count_lots => k_is); (case x_ulaw_refill => k_is); (case l_ulaw_refill => k_is); (case c_ulaw_refill => k_is); (case k_ulaw_refill => k_is); (case x_ulaw_draw => k_is); (case l_ulaw_draw => k_is); (case c_ulaw_draw => k_is); (case k_ulaw_draw => k_is); (case x_ulaw_exact => k_is); (case l_ulaw_exact => k_is); (case c_ulaw_exact => k_is); (case k_ulaw_exact => k_is); (case x_ulaw_heaps => k_is); (case l_ulaw_heaps => k_is); (case c_ulaw_heaps => k_is); (case k_ulaw_heaps => k_is); (case x_ulaw_box => k_is); (case l_ulaw_box => k_is); (case c_ulaw_box => k_is); (case k_ulaw_box => k_is); (case x_ulaw_swapped => k_is); (case l_ulaw_swapped => k_is); (case c_ulaw_swapped => k_is); (case k_ulaw_swapped => k_is); (case x_ulaw_rolled => k_is); (case l_ulaw_rolled => k_is); (case c_ulaw_rolled => k_is); (case k_ulaw_rolled => k_is); (case x_ulaw_lacks => k_is); (case l_ulaw_lacks => k_is); (case c_ulaw_lacks => k_is); (case k_ulaw_lacks => k_is); (case x_ulaw_lot => k_is); (case l_ulaw_lot => k_is); (case c_ulaw_lot => k_is); (case k_ulaw_lot => k_is); (case x_law => k_is); (case l_law => k_is); (case c_law => k_is); (case k_law => k_is); (case z_all => k_is); (case z_bool => k_is); (case z_enumerate => k_is); (case z_int => k_is); (case z_isinstance => k_is); (case z_len => k_is); (case z_list => k_is); (case z_min => k_is); (case z_range => k_is); (case z_reversed => k_is); (case z_sorted => k_is); (case z_str => k_is); (case z_tuple => k_is)
