import PyProof.Rows.All
import Wide.All
import OpenK.AllK
import Wide.FinOn
import HandS.ForMost
import HandS.ForExc
import HandS.Evl
import HandS.IsInst
import HandS.DictComp
import HandS.Lambda
import HandS.TryMany
import HandS.ExcInit
import HandS.More
import HandS.Conv
import HandS.Zip
import HandS.SortInts
import HandS.EndTab
import HandS.TupAny
import HandS.ListItems
import HandS.Style
import HandS.Small
import KE.KDictCopyH
import KE.KDictDisplayH
import HandS.DictTup
import HandS.WordsExc
import HandS.ExcField
import KE.GoesEnum
import HandS.HeadHook4
import HandS.Head2
import HandS.HeadEnd
import HandS.HeadWalk
import KE.LtSeq
import KE.KRevSl
import PySem.Challenge.RW_denserows_k66_whole_ordered_or_two
set_option Elab.async false
set_option linter.all false
set_option maxRecDepth 100000
set_option maxHeartbeats 4000000
/-! Second layer, part A: values as plain data (D), what represents them in the abstract heap (Rep), the state (RS). -/
namespace Qd
open PySem L2

/-- a lambda that captures nothing -/
structure Lm where
  q : Str
  ps : Arguments
  e : Expr
  sc : Scope
/-- plain data; a `mut a` is an object at a that may still change (its content stands in the small heap MH) -/
inductive D where
  | non | bl (b : Bool) | int (i : Int) | str (x : Str) | ty (n : String)
  | tup (xs : List D) | lst (xs : List D) | dic (kvs : List (Key × D))
  /-- a dict with keys of any sort, read only -/
  | gdc (kvs : List (D × D))
  | mut (a : Addr) | fn (a : Addr)
  /-- a list that is read, wherever it stands (the script) -/
  | frl (xs : List D)
  | lam (l : Lm)

def kD : Key → D
  | .inl i => .int i
  | .inr x => .str x

/-- a dict, whatever its keys are, read only -/
def GD (a : Addr) (ps : List (V × V)) : HO := .ext fun h => (a == sysModules) = false ∧ ∃ (o : Obj) (es : Array DictEntry) (ep : Nat), h.get? a = some o ∧ o.ExactDict ∧ o.data = .dict es ep ∧ es.size ≤ sizeLine ∧
  Paired (fun (p : V × V) (e : DictEntry) => RelV p.1 e.key ∧ RelV p.2 e.val) ps es.toList
/-- the lambda l stands at f, its code object at c -/
def LamO (f c : Addr) (l : Lm) : HO := .ext fun h => ∃ pm ctv : Value, h.get? f = some (PySem.W.kla_obj "<lambda>" l.q l.ps l.e l.sc [] pm c ctv)
mutual
inductive Rep (K : PySem.W.Frag) (F : Hp) : V → D → Prop
  | non : Rep K F .non .non
  | bl (b : Bool) : Rep K F (.bl b) (.bl b)
  | int (i : Int) : Rep K F (.int i) (.int i)
  | str (x : Str) : Rep K F (.str x) (.str x)
  | ty (n : String) : Rep K F (.ty n) (.ty n)
  | tup {a : Addr} {vs : List V} {ds : List D} : SqT K F a vs → Reps K F vs ds → Rep K F (.ref a) (.tup ds)
  | lst {a : Addr} {vs : List V} {ds : List D} : F a = some (.lst vs) → Reps K F vs ds → Rep K F (.ref a) (.lst ds)
  | frl {a : Addr} {vs : List V} {ds : List D} : SqL K F a vs → Reps K F vs ds → Rep K F (.ref a) (.frl ds)
  | dic {a : Addr} {o : Obj} {ps : List (Key × V)} {ds : List (Key × D)} : F a = some (.frz o (.dK ps)) → KvRep K F ps ds → Rep K F (.ref a) (.dic ds)
  | gdc {a : Addr} {ps : List (V × V)} {ds : List (D × D)} : F a = some (GD a ps) → RepK K F ps ds → Rep K F (.ref a) (.gdc ds)
  | mut (a : Addr) : Rep K F (.ref a) (.mut a)
  | fn (a : Addr) : Rep K F (.ref a) (.fn a)
  | lam {f c : Addr} {l : Lm} : F f = some (LamO f c l) → F c = some (LamX.CodeO c l.q) → Rep K F (.ref f) (.lam l)
inductive Reps (K : PySem.W.Frag) (F : Hp) : List V → List D → Prop
  | nil : Reps K F [] []
  | cons {v : V} {d : D} {vs : List V} {ds : List D} : Rep K F v d → Reps K F vs ds → Reps K F (v :: vs) (d :: ds)
inductive RepK (K : PySem.W.Frag) (F : Hp) : List (V × V) → List (D × D) → Prop
  | nil : RepK K F [] []
  | cons {k v : V} {c d : D} {ps : List (V × V)} {ds : List (D × D)} : Rep K F k c → Rep K F v d → RepK K F ps ds → RepK K F ((k, v) :: ps) ((c, d) :: ds)
inductive KvRep (K : PySem.W.Frag) (F : Hp) : List (Key × V) → List (Key × D) → Prop
  | nil : KvRep K F [] []
  | cons {n : Key} {v : V} {d : D} {ps : List (Key × V)} {ds : List (Key × D)} : Rep K F v d → KvRep K F ps ds → KvRep K F ((n, v) :: ps) ((n, d) :: ds)
end

section
variable {K : PySem.W.Frag} {F F' : Hp}
theorem sqT_mono (e : Same F F') {a : Addr} {xs : List V} (h : SqT K F a xs) : SqT K F' a xs := by
  rcases h with (h | ⟨o, h⟩) | h
  · exact .inl (.inl (e _ _ h))
  · exact .inl (.inr ⟨o, e _ _ h⟩)
  · exact .inr h
mutual
theorem Rep.mono (e : Same F F') : ∀ {v : V} {d : D}, Rep K F v d → Rep K F' v d
  | _, _, .non => .non
  | _, _, .bl b => .bl b
  | _, _, .int i => .int i
  | _, _, .str x => .str x
  | _, _, .ty x => .ty x
  | _, _, .tup h r => .tup (sqT_mono e h) (Reps.mono e r)
  | _, _, .lst h r => .lst (e _ _ h) (Reps.mono e r)
  | _, _, .frl h r => .frl (e.seq h) (Reps.mono e r)
  | _, _, .dic h r => .dic (e _ _ h) (KvRep.mono e r)
  | _, _, .gdc h r => .gdc (e _ _ h) (RepK.mono e r)
  | _, _, .mut a => .mut a
  | _, _, .fn a => .fn a
  | _, _, .lam h1 h2 => .lam (e _ _ h1) (e _ _ h2)
theorem Reps.mono (e : Same F F') : ∀ {vs : List V} {ds : List D}, Reps K F vs ds → Reps K F' vs ds
  | _, _, .nil => .nil
  | _, _, .cons h r => .cons (Rep.mono e h) (Reps.mono e r)
theorem RepK.mono (e : Same F F') : ∀ {vs : List (V × V)} {ds : List (D × D)}, RepK K F vs ds → RepK K F' vs ds
  | _, _, .nil => .nil
  | _, _, .cons g h r => .cons (Rep.mono e g) (Rep.mono e h) (RepK.mono e r)
theorem KvRep.mono (e : Same F F') : ∀ {vs : List (Key × V)} {ds : List (Key × D)}, KvRep K F vs ds → KvRep K F' vs ds
  | _, _, .nil => .nil
  | _, _, .cons h r => .cons (Rep.mono e h) (KvRep.mono e r)
end
theorem Reps.length : ∀ {vs : List V} {ds : List D}, Reps K F vs ds → vs.length = ds.length
  | _, _, .nil => rfl
  | _, _, .cons _ r => by rw [List.length_cons, List.length_cons, r.length]
theorem Reps.get : ∀ {vs : List V} {ds : List D} {i : Nat} {d : D}, Reps K F vs ds → ds[i]? = some d → ∃ v, vs[i]? = some v ∧ Rep K F v d
  | _, _, _, _, .nil, e => by simp at e
  | _, _, 0, _, .cons r _, e => by simp at e; subst e; exact ⟨_, rfl, r⟩
  | _, _, i + 1, d, .cons _ t, e => by
    obtain ⟨v, h1, h2⟩ := Reps.get (i := i) (d := d) t (by simpa using e)
    exact ⟨v, by simpa using h1, h2⟩
theorem Reps.getV : ∀ {vs : List V} {ds : List D} {i : Nat} {v : V}, Reps K F vs ds → vs[i]? = some v → ∃ d, ds[i]? = some d ∧ Rep K F v d
  | _, _, _, _, .nil, e => by simp at e
  | _, _, 0, _, .cons r _, e => by simp at e; subst e; exact ⟨_, rfl, r⟩
  | _, _, i + 1, v, .cons _ t, e => by
    obtain ⟨d, h1, h2⟩ := Reps.getV (i := i) (v := v) t (by simpa using e)
    exact ⟨d, by simpa using h1, h2⟩
theorem Reps.append : ∀ {vs ws : List V} {ds es : List D}, Reps K F vs ds → Reps K F ws es → Reps K F (vs ++ ws) (ds ++ es)
  | _, _, _, _, .nil, s => s
  | _, _, _, _, .cons r t, s => .cons r (Reps.append t s)
theorem Reps.take : ∀ {vs : List V} {ds : List D} (n : Nat), Reps K F vs ds → Reps K F (vs.take n) (ds.take n)
  | _, _, 0, _ => .nil
  | _, _, _ + 1, .nil => .nil
  | _, _, n + 1, .cons r t => .cons r (Reps.take n t)
theorem Reps.drop : ∀ {vs : List V} {ds : List D} (n : Nat), Reps K F vs ds → Reps K F (vs.drop n) (ds.drop n)
  | _, _, 0, r => r
  | _, _, _ + 1, .nil => .nil
  | _, _, n + 1, .cons _ t => Reps.drop n t
theorem Reps.eraseIdx : ∀ {vs : List V} {ds : List D} (n : Nat), Reps K F vs ds → Reps K F (vs.eraseIdx n) (ds.eraseIdx n)
  | _, _, _, .nil => .nil
  | _, _, 0, .cons _ t => t
  | _, _, n + 1, .cons r t => .cons r (Reps.eraseIdx n t)
theorem Reps.set {v : V} {d : D} (r : Rep K F v d) : ∀ {vs : List V} {ds : List D} (n : Nat), Reps K F vs ds → Reps K F (vs.set n v) (ds.set n d)
  | _, _, _, .nil => .nil
  | _, _, 0, .cons _ t => .cons r t
  | _, _, n + 1, .cons q t => .cons q (Reps.set r n t)
theorem Reps.reverse : ∀ {vs : List V} {ds : List D}, Reps K F vs ds → Reps K F vs.reverse ds.reverse
  | _, _, .nil => .nil
  | _, _, .cons r t => by
    rw [List.reverse_cons, List.reverse_cons]
    exact Reps.append (Reps.reverse t) (.cons r .nil)
theorem Reps.atI {vs : List V} {ds : List D} {i : Int} {d : D} (r : Reps K F vs ds) (h : L2.atI ds i = some d) : ∃ v, L2.atI vs i = some v ∧ Rep K F v d := by
  unfold L2.atI at *
  rw [r.length]
  cases e : ixN ds.length i with
  | none => rw [e] at h; cases h
  | some j =>
    rw [e] at h
    exact r.get h

/-! ### what may change -/
inductive MO where
  | lst (xs : List D) | dic (kvs : List (Key × D)) | dit (kvs : List (List Key × D)) | ins (C dx : Addr) (fs : List (Str × D))
abbrev MH := Addr → Option MO
def MH.set (A : MH) (a : Addr) (o : MO) : MH := fun b => if b = a then some o else A b
def MH.del (A : MH) (a : Addr) : MH := fun b => if b = a then none else A b
theorem MH.set_same {A : MH} {a : Addr} {o : MO} : A.set a o a = some o := if_pos rfl
theorem MH.set_ne {A : MH} {a b : Addr} {o : MO} (h : b ≠ a) : A.set a o b = A b := if_neg h
theorem MH.del_same {A : MH} {a : Addr} : A.del a a = none := if_pos rfl
theorem MH.del_ne {A : MH} {a b : Addr} (h : b ≠ a) : A.del a b = A b := if_neg h
theorem MH.del_set {A : MH} {a : Addr} {o : MO} (h : A a = none) : (A.set a o).del a = A := by
  funext b
  by_cases e : b = a
  · subst e; rw [del_same, h]
  · rw [del_ne e, set_ne e]
theorem MH.set_set {A : MH} {a : Addr} {o u : MO} : (A.set a o).set a u = A.set a u := by
  funext b
  by_cases e : b = a
  · subst e; rw [set_same, set_same]
  · rw [set_ne e, set_ne e, set_ne e]
theorem MH.set_comm {A : MH} {a b : Addr} {o u : MO} (h : a ≠ b) : (A.set a o).set b u = (A.set b u).set a o := by
  funext c
  by_cases e : c = a
  · subst e; rw [set_ne h, set_same, set_same]
  · by_cases e2 : c = b
    · subst e2; rw [set_same, set_ne e, set_same]
    · rw [set_ne e2, set_ne e, set_ne e, set_ne e2]
theorem MH.set_id {A : MH} {a : Addr} {o : MO} (h : A a = some o) : A.set a o = A := by
  funext b
  by_cases e : b = a
  · subst e; rw [set_same, h]
  · rw [set_ne e]

inductive FsRep (K : PySem.W.Frag) (F : Hp) : List (Str × V) → List (Str × D) → Prop
  | nil : FsRep K F [] []
  | cons {n : Str} {v : V} {d : D} {ps : List (Str × V)} {ds : List (Str × D)} : Rep K F v d → FsRep K F ps ds → FsRep K F ((n, v) :: ps) ((n, d) :: ds)
inductive KtRep (K : PySem.W.Frag) (F : Hp) : List (List Key × V) → List (List Key × D) → Prop
  | nil : KtRep K F [] []
  | cons {n : List Key} {v : V} {d : D} {ps : List (List Key × V)} {ds : List (List Key × D)} : Rep K F v d → KtRep K F ps ds → KtRep K F ((n, v) :: ps) ((n, d) :: ds)
theorem KtRep.mono (e : Same F F') : ∀ {vs : List (List Key × V)} {ds : List (List Key × D)}, KtRep K F vs ds → KtRep K F' vs ds
  | _, _, .nil => .nil
  | _, _, .cons h r => .cons (h.mono e) (KtRep.mono e r)
theorem FsRep.mono (e : Same F F') : ∀ {vs : List (Str × V)} {ds : List (Str × D)}, FsRep K F vs ds → FsRep K F' vs ds
  | _, _, .nil => .nil
  | _, _, .cons h r => .cons (h.mono e) (FsRep.mono e r)
theorem KvRep.length : ∀ {vs : List (Key × V)} {ds : List (Key × D)}, KvRep K F vs ds → vs.length = ds.length
  | _, _, .nil => rfl
  | _, _, .cons _ r => by rw [List.length_cons, List.length_cons, r.length]

def MoRep (K : PySem.W.Frag) (F H : Hp) (a : Addr) : MO → Prop
  | .lst xs => ∃ vs, H a = some (.lst vs) ∧ Reps K F vs xs
  | .dic kvs => ∃ ps, H a = some (.dK ps) ∧ KvRep K F ps kvs
  | .dit kvs => ∃ ps, H a = some (.dT ps) ∧ KtRep K F ps kvs
  | .ins C dx fs => ∃ vs, H a = some (.ins C dx vs) ∧ FsRep K F vs fs
theorem MoRep.mono (e : Same F F') {H H' : Hp} {a : Addr} {o : MO} (hH : H' a = H a) (h : MoRep K F H a o) : MoRep K F' H' a o := by
  cases o with
  | lst xs => obtain ⟨vs, h1, h2⟩ := h; exact ⟨vs, hH.trans h1, h2.mono e⟩
  | dic xs => obtain ⟨vs, h1, h2⟩ := h; exact ⟨vs, hH.trans h1, h2.mono e⟩
  | dit xs => obtain ⟨vs, h1, h2⟩ := h; exact ⟨vs, hH.trans h1, h2.mono e⟩
  | ins C dx xs => obtain ⟨vs, h1, h2⟩ := h; exact ⟨vs, hH.trans h1, h2.mono e⟩
/-- all but the code tables (these grow by themselves) -/
def Plain : HO → Prop
  | .tbl _ => False
  | _ => True
/-- what is written in place -/
def Wr : HO → Prop
  | .lst _ | .dK _ | .dT _ | .ins _ _ _ => True
  | .ext φ => ∃ a : Addr, ∀ h : Heap, φ h → ∃ (o : Obj) (es : Array DictEntry) (ep : Nat), h.get? a = some o ∧ o.data = .dict es ep
  | _ => False
theorem notWr_code {c : Addr} {q : Str} : ¬ Wr (LamX.CodeO c q) := by
  rintro ⟨a, h⟩
  let ob : Obj := { cls := .none, data := .fields #[.none, .str q 0] }
  have at' : ∀ b : Addr, b ≤ a + c → ({ objs := Array.replicate (a + c + 1) ob } : Heap).get? b = some ob := fun b hb => by
    unfold Heap.get?
    have e : (Array.replicate (a + c + 1) ob)[b]? = some ob := by simp [Array.getElem?_replicate, Nat.lt_succ_of_le hb]
    show (match (Array.replicate (a + c + 1) ob)[b]? with | some ⟨_, _, .freed, _⟩ => none | o => o) = some ob
    rw [e]
  obtain ⟨o, es, ep, e1, e2⟩ := h { objs := Array.replicate (a + c + 1) ob } ⟨ob, _, 0, at' c (Nat.le_add_left _ _), rfl, rfl⟩
  rw [at' a (Nat.le_add_right _ _)] at e1
  cases e1
  cases e2
theorem Wr.plain {u : HO} (h : Wr u) : Plain u := by
  cases u <;> first | trivial | exact h.elim
theorem MoRep.there {H : Hp} {a : Addr} {o : MO} (h : MoRep K F H a o) : ∃ u, H a = some u ∧ Wr u ∧ Mut (some u) := by
  cases o with
  | lst xs => obtain ⟨vs, h1, _⟩ := h; exact ⟨_, h1, trivial, trivial⟩
  | dic xs => obtain ⟨vs, h1, _⟩ := h; exact ⟨_, h1, trivial, trivial⟩
  | dit xs => obtain ⟨vs, h1, _⟩ := h; exact ⟨_, h1, trivial, trivial⟩
  | ins C dx xs => obtain ⟨vs, h1, _⟩ := h; exact ⟨_, h1, trivial, trivial⟩

/-- the state: what is frozen, what may change, the code tables -/
structure RS0 (K : PySem.W.Frag) (T : List (Addr × Str)) (F : Hp) (A : MH) (H : Hp) : Prop where
  sub : Same F H
  mem : ∀ a o, A a = some o → F a = none ∧ MoRep K F H a o
  tab : LamX.Tabs T H
  pl : ∀ a u, F a = some u → Plain u
section
variable {T : List (Addr × Str)} {A : MH} {H H' : Hp}
/-- a table, a code object is no plain thing -/
theorem tabs_keep (t : LamX.Tabs T H) (e : ∀ b u, H b = some u → ¬ Wr u → H' b = some u) : LamX.Tabs T H' := fun p hp => by
  obtain ⟨ps, h1, h2, h3⟩ := t p hp
  refine ⟨ps, e _ _ h1 (fun z => z), h2, fun pos cv hc => ?_⟩
  obtain ⟨c, e1, e2⟩ := h3 pos cv hc
  exact ⟨c, e1, e _ _ e2 notWr_code⟩
theorem RS0.free (R : RS0 K T F A H) {p : Addr} (h : H p = none) : F p = none ∧ A p = none := by
  refine ⟨R.sub.free h, ?_⟩
  cases e : A p with
  | none => rfl
  | some o =>
    obtain ⟨u, hu, _⟩ := (R.mem p o e).2.there
    rw [h] at hu; cases hu
/-- a new frozen object -/
theorem RS0.newF (R : RS0 K T F A H) {p : Addr} {u : HO} (h : H p = none) (pu : Plain u) : RS0 K T (upd F p u) A (upd H p u) ∧ Same F (upd F p u) := by
  have hF := (R.free h).1
  have sm : Same F (upd F p u) := fun b o e => by rw [upd_ne (ne_of_none e hF)]; exact e
  refine ⟨⟨fun b o e => ?_, fun b o e => ?_, tabs_keep R.tab fun b o e _ => by rw [upd_ne (ne_of_none e h)]; exact e, fun b o e => ?_⟩, sm⟩
  · by_cases hb : b = p
    · subst hb; rw [upd_same] at e ⊢; exact e
    · rw [upd_ne hb] at e ⊢; exact R.sub _ _ e
  · obtain ⟨m1, m2⟩ := R.mem b o e
    obtain ⟨x, hx, _⟩ := m2.there
    have hb : b ≠ p := ne_of_none hx h
    exact ⟨by rw [upd_ne hb]; exact m1, m2.mono sm (upd_ne hb)⟩
  · by_cases hb : b = p
    · subst hb; rw [upd_same] at e; cases e; exact pu
    · rw [upd_ne hb] at e; exact R.pl _ _ e
/-- a new object that may change -/
theorem RS0.newM (R : RS0 K T F A H) {p : Addr} {u : HO} {m : MO} (h : H p = none) (hm : MoRep K F (upd H p u) p m) : RS0 K T F (A.set p m) (upd H p u) := by
  have hF := (R.free h).1
  refine ⟨fun b o e => ?_, fun b o e => ?_, tabs_keep R.tab fun b o e _ => by rw [upd_ne (ne_of_none e h)]; exact e, R.pl⟩
  · rw [upd_ne (ne_of_none e hF)]; exact R.sub _ _ e
  · by_cases hb : b = p
    · subst hb; rw [MH.set_same] at e; cases e; exact ⟨hF, hm⟩
    · rw [MH.set_ne hb] at e
      obtain ⟨m1, m2⟩ := R.mem b o e
      exact ⟨m1, m2.mono (Same.refl F) (upd_ne hb)⟩
/-- an object that may change is written -/
theorem RS0.write (R : RS0 K T F A H) {p : Addr} {u : HO} {m m0 : MO} (h : A p = some m0) (hm : MoRep K F (upd H p u) p m) : RS0 K T F (A.set p m) (upd H p u) := by
  obtain ⟨hF, h0⟩ := R.mem p m0 h
  obtain ⟨u0, hu0, pu0, _⟩ := h0.there
  refine ⟨fun b o e => ?_, fun b o e => ?_, tabs_keep R.tab fun b o e pn => ?_, R.pl⟩
  · rw [upd_ne (ne_of_none e hF)]; exact R.sub _ _ e
  · by_cases hb : b = p
    · subst hb; rw [MH.set_same] at e; cases e; exact ⟨hF, hm⟩
    · rw [MH.set_ne hb] at e
      obtain ⟨m1, m2⟩ := R.mem b o e
      exact ⟨m1, m2.mono (Same.refl F) (upd_ne hb)⟩
  · rw [upd_ne (fun z => by subst z; rw [hu0] at e; cases e; exact pn pu0)]; exact e
theorem RS0.del (R : RS0 K T F A H) (p : Addr) : RS0 K T F (A.del p) H :=
  ⟨R.sub, fun b o e => by
    by_cases hb : b = p
    · subst hb; rw [MH.del_same] at e; cases e
    · rw [MH.del_ne hb] at e; exact R.mem b o e, R.tab, R.pl⟩
/-- an object that may change changes no more -/
theorem RS0.freeze (R : RS0 K T F A H) {p : Addr} {u : HO} {m : MO} (h : A p = some m) (hu : H p = some u) : RS0 K T (upd F p u) (A.del p) H ∧ Same F (upd F p u) := by
  obtain ⟨hF, h0⟩ := R.mem p m h
  obtain ⟨u0, hu0, pu0, _⟩ := h0.there
  have eu : u = u0 := Option.some.inj (hu.symm.trans hu0)
  subst eu
  have sm : Same F (upd F p u) := fun b o e => by rw [upd_ne (ne_of_none e hF)]; exact e
  refine ⟨⟨fun b o e => ?_, fun b o e => ?_, R.tab, fun b o e => ?_⟩, sm⟩
  · by_cases hb : b = p
    · subst hb; rw [upd_same] at e; rw [hu]; exact e
    · rw [upd_ne hb] at e; exact R.sub _ _ e
  · by_cases hb : b = p
    · subst hb; rw [MH.del_same] at e; cases e
    · rw [MH.del_ne hb] at e
      obtain ⟨m1, m2⟩ := R.mem b o e
      exact ⟨by rw [upd_ne hb]; exact m1, m2.mono sm rfl⟩
  · by_cases hb : b = p
    · subst hb; rw [upd_same] at e; cases e; exact pu0.plain
    · rw [upd_ne hb] at e; exact R.pl _ _ e
/-- .. locked: a dict -/
theorem RS0.freezeD (R : RS0 K T F A H) {p : Addr} {u : HO} {m : MO} (o : Obj) (h : A p = some m) (hu : H p = some u) : RS0 K T (upd F p (.frz o u)) (A.del p) (upd H p (.frz o u)) ∧ Same F (upd F p (.frz o u)) := by
  obtain ⟨hF, h0⟩ := R.mem p m h
  obtain ⟨u0, hu0, pu0, _⟩ := h0.there
  have sm : Same F (upd F p (.frz o u)) := fun b x e => by rw [upd_ne (ne_of_none e hF)]; exact e
  refine ⟨⟨fun b x e => ?_, fun b x e => ?_, tabs_keep R.tab fun b x e pn => ?_, fun b x e => ?_⟩, sm⟩
  · by_cases hb : b = p
    · subst hb; rw [upd_same] at e ⊢; exact e
    · rw [upd_ne hb] at e ⊢; exact R.sub _ _ e
  · by_cases hb : b = p
    · subst hb; rw [MH.del_same] at e; cases e
    · rw [MH.del_ne hb] at e
      obtain ⟨m1, m2⟩ := R.mem b x e
      exact ⟨by rw [upd_ne hb]; exact m1, m2.mono sm (upd_ne hb)⟩
  · rw [upd_ne (fun z => by subst z; rw [hu0] at e; cases e; exact pn pu0)]; exact e
  · by_cases hb : b = p
    · subst hb; rw [upd_same] at e; cases e; trivial
    · rw [upd_ne hb] at e; exact R.pl _ _ e
end
end

/-- from one state to another: what is frozen stays, what may not be written stays as it is -/
structure Go0 (K : PySem.W.Frag) (T : List (Addr × Str)) (F : Hp) (A : MH) (H : Hp) (F' : Hp) (A' : MH) (H' : Hp) : Prop where
  ext : Same F F'
  rs : RS0 K T F' A' H'
  kp : ∀ b u, H b = some u → A b = none → Plain u → H' b = some u ∧ A' b = none ∧ (Wr u → F b = none → F' b = none)
section
variable {K : PySem.W.Frag} {T : List (Addr × Str)} {F F1 F2 : Hp} {A A1 A2 : MH} {H H1 H2 : Hp}
theorem RS0.go (R : RS0 K T F A H) : Go0 K T F A H F A H := ⟨Same.refl F, R, fun b u e n _ => ⟨e, n, fun _ z => z⟩⟩
theorem Go0.trans (a : Go0 K T F A H F1 A1 H1) (b : Go0 K T F1 A1 H1 F2 A2 H2) : Go0 K T F A H F2 A2 H2 :=
  ⟨a.ext.trans b.ext, b.rs, fun x u e n p => let ⟨h1, n1, f1⟩ := a.kp x u e n p; let ⟨h2, n2, f2⟩ := b.kp x u h1 n1 p; ⟨h2, n2, fun w z => f2 w (f1 w z)⟩⟩
theorem RS0.goF (R : RS0 K T F A H) {p : Addr} {u : HO} (h : H p = none) (pu : Plain u) : Go0 K T F A H (upd F p u) A (upd H p u) :=
  ⟨(R.newF h pu).2, (R.newF h pu).1, fun b o e n _ => ⟨by rw [upd_ne (ne_of_none e h)]; exact e, n, fun _ z => by rw [upd_ne (ne_of_none e h)]; exact z⟩⟩
theorem RS0.goM (R : RS0 K T F A H) {p : Addr} {u : HO} {m : MO} (h : H p = none) (hm : MoRep K F (upd H p u) p m) : Go0 K T F A H F (A.set p m) (upd H p u) :=
  ⟨Same.refl F, R.newM h hm, fun b o e n _ => ⟨by rw [upd_ne (ne_of_none e h)]; exact e, by rw [MH.set_ne (ne_of_none e h)]; exact n, fun _ z => z⟩⟩
theorem RS0.goW (R : RS0 K T F A H) {p : Addr} {u : HO} {m m0 : MO} (h : A p = some m0) (hm : MoRep K F (upd H p u) p m) : Go0 K T F A H F (A.set p m) (upd H p u) :=
  ⟨Same.refl F, R.write h hm, fun b o e n _ => by
    have hb : b ≠ p := fun z => by subst z; rw [h] at n; cases n
    exact ⟨by rw [upd_ne hb]; exact e, by rw [MH.set_ne hb]; exact n, fun _ z => z⟩⟩
theorem RS0.goDel (R : RS0 K T F A H) (p : Addr) : Go0 K T F A H F (A.del p) H :=
  ⟨Same.refl F, R.del p, fun b o e n _ => ⟨e, by
    by_cases hb : b = p
    · subst hb; exact MH.del_same
    · rw [MH.del_ne hb]; exact n, fun _ z => z⟩⟩
theorem RS0.goFz (R : RS0 K T F A H) {p : Addr} {u : HO} {m : MO} (h : A p = some m) (hu : H p = some u) : Go0 K T F A H (upd F p u) (A.del p) H :=
  ⟨(R.freeze h hu).2, (R.freeze h hu).1, fun b o e n _ => by
    have hb : b ≠ p := fun z => by subst z; rw [h] at n; cases n
    exact ⟨e, by rw [MH.del_ne hb]; exact n, fun _ z => by rw [upd_ne hb]; exact z⟩⟩
theorem RS0.goFzD (R : RS0 K T F A H) {p : Addr} {u : HO} {m : MO} (o : Obj) (h : A p = some m) (hu : H p = some u) : Go0 K T F A H (upd F p (.frz o u)) (A.del p) (upd H p (.frz o u)) :=
  ⟨(R.freezeD o h hu).2, (R.freezeD o h hu).1, fun b x e n _ => by
    have hb : b ≠ p := fun z => by subst z; rw [h] at n; cases n
    exact ⟨by rw [upd_ne hb]; exact e, by rw [MH.del_ne hb]; exact n, fun _ z => by rw [upd_ne hb]; exact z⟩⟩
/-- an object beside: neither frozen nor to be changed so far -/
theorem RS0.beside (R : RS0 K T F A H) {p : Addr} {u : HO} (h : H p = none) : RS0 K T F A (upd H p u) := by
  have hF := (R.free h).1
  refine ⟨fun b o e => by rw [upd_ne (ne_of_none e hF)]; exact R.sub _ _ e, fun b o e => ?_, tabs_keep R.tab fun b o e _ => by rw [upd_ne (ne_of_none e h)]; exact e, R.pl⟩
  obtain ⟨m1, m2⟩ := R.mem b o e
  obtain ⟨x, hx, _⟩ := m2.there
  exact ⟨m1, m2.mono (Same.refl F) (upd_ne (ne_of_none hx h))⟩
theorem RS0.aside (R : RS0 K T F A H) {p : Addr} {u u0 : HO} (hF : F p = none) (hA : A p = none) (h : H p = some u0) (pu : Wr u0) : RS0 K T F A (upd H p u) := by
  refine ⟨fun b o e => by rw [upd_ne (ne_of_none e hF)]; exact R.sub _ _ e, fun b o e => ?_, tabs_keep R.tab fun b o e pn => by rw [upd_ne (fun z => by subst z; rw [h] at e; cases e; exact pn pu)]; exact e, R.pl⟩
  obtain ⟨m1, m2⟩ := R.mem b o e
  exact ⟨m1, m2.mono (Same.refl F) (upd_ne (fun z => by subst z; rw [hA] at e; cases e))⟩
theorem Go0.beside (G : Go0 K T F A H F1 A1 H1) {p : Addr} {u : HO} (h : H1 p = none) : Go0 K T F A H F1 A1 (upd H1 p u) :=
  ⟨G.ext, G.rs.beside h, fun b x e n pl => let ⟨h1, n1, f1⟩ := G.kp b x e n pl; ⟨by rw [upd_ne (ne_of_none h1 h)]; exact h1, n1, f1⟩⟩
theorem Go0.aside (G : Go0 K T F A H F1 A1 H1) {p : Addr} {u u0 : HO} (hn : H p = none) (hF : F1 p = none) (hA : A1 p = none) (h : H1 p = some u0) (pu : Wr u0) : Go0 K T F A H F1 A1 (upd H1 p u) :=
  ⟨G.ext, G.rs.aside hF hA h pu, fun b x e n pl => let ⟨h1, n1, f1⟩ := G.kp b x e n pl; ⟨by rw [upd_ne (ne_of_none e hn)]; exact h1, n1, f1⟩⟩
theorem Go0.own (G : Go0 K T F A H F1 A1 H1) {p : Addr} {m : MO} (hn : H p = none) (hF : F1 p = none) (hm : MoRep K F1 H1 p m) : Go0 K T F A H F1 (A1.set p m) H1 := by
  refine ⟨G.ext, ⟨G.rs.sub, fun b o e => ?_, G.rs.tab, G.rs.pl⟩, fun b x e n pl => let ⟨h1, n1, f1⟩ := G.kp b x e n pl; ⟨h1, by rw [MH.set_ne (ne_of_none e hn)]; exact n1, f1⟩⟩
  by_cases hb : b = p
  · subst hb; rw [MH.set_same] at e; cases e; exact ⟨hF, hm⟩
  · rw [MH.set_ne hb] at e; exact G.rs.mem b o e
theorem Go0.froze (G : Go0 K T F A H F1 A1 H1) {p : Addr} {u : HO} (hn : H p = none) (hF : F1 p = none) (hA : A1 p = none) (hu : H1 p = some u) (pu : Plain u) : Go0 K T F A H (upd F1 p u) A1 H1 ∧ Same F1 (upd F1 p u) := by
  have sm : Same F1 (upd F1 p u) := fun b x e => by rw [upd_ne (ne_of_none e hF)]; exact e
  refine ⟨⟨G.ext.trans sm, ⟨fun b o e => ?_, fun b o e => ?_, G.rs.tab, fun b o e => ?_⟩, fun b x e n pl => let ⟨h1, n1, f1⟩ := G.kp b x e n pl; ⟨h1, n1, fun w z => by rw [upd_ne (ne_of_none e hn)]; exact f1 w z⟩⟩, sm⟩
  · by_cases hb : b = p
    · subst hb; rw [upd_same] at e; rw [hu]; exact e
    · rw [upd_ne hb] at e; exact G.rs.sub _ _ e
  · have hb : b ≠ p := fun z => by subst z; rw [hA] at e; cases e
    obtain ⟨m1, m2⟩ := G.rs.mem b o e
    exact ⟨by rw [upd_ne hb]; exact m1, m2.mono sm rfl⟩
  · by_cases hb : b = p
    · subst hb; rw [upd_same] at e; cases e; exact pu
    · rw [upd_ne hb] at e; exact G.rs.pl _ _ e
/-- what is not written in place may be held as frozen at any time -/
theorem Go0.hold (G : Go0 K T F A H F1 A1 H1) {p : Addr} {u : HO} (hA : A1 p = none) (hu : H1 p = some u) (nw : ¬ Wr u) (pu : Plain u) : Go0 K T F A H (upd F1 p u) A1 H1 ∧ Same F1 (upd F1 p u) := by
  have sm : Same F1 (upd F1 p u) := fun b x e => by
    by_cases hb : b = p
    · subst hb; rw [upd_same, ← hu]; exact G.rs.sub _ _ e
    · rw [upd_ne hb]; exact e
  refine ⟨⟨G.ext.trans sm, ⟨fun b o e => ?_, fun b o e => ?_, G.rs.tab, fun b o e => ?_⟩, fun b x e n pl => ?_⟩, sm⟩
  · by_cases hb : b = p
    · subst hb; rw [upd_same] at e; rw [hu]; exact e
    · rw [upd_ne hb] at e; exact G.rs.sub _ _ e
  · have hb : b ≠ p := fun z => by subst z; rw [hA] at e; cases e
    obtain ⟨m1, m2⟩ := G.rs.mem b o e
    exact ⟨by rw [upd_ne hb]; exact m1, m2.mono sm rfl⟩
  · by_cases hb : b = p
    · subst hb; rw [upd_same] at e; cases e; exact pu
    · rw [upd_ne hb] at e; exact G.rs.pl _ _ e
  · obtain ⟨h1, n1, f1⟩ := G.kp b x e n pl
    refine ⟨h1, n1, fun w z => ?_⟩
    have hb : b ≠ p := fun z2 => by subst z2; rw [hu] at h1; cases h1; exact nw w
    rw [upd_ne hb]; exact f1 w z
end

/-! ### with the wish for what is raised -/
abbrev XKQ := Addr → List (Str × D) → MH → Prop
/-- T: the code tables, what is wished of an exception (its class, its dict), the same over data -/
structure Tz where
  tb : List (Addr × Str)
  xe : XK := fun _ _ _ => False
  x2 : XKQ := fun _ _ _ => False
  /-- what else holds of the frozen part -/
  iv : Hp → Prop := fun _ => True
  mono : ∀ {F F' : Hp}, Same F F' → iv F → iv F' := by exact fun _ h => h
/-- the fields of an exception whose dict is d -/
def XD (K : PySem.W.Frag) (F : Hp) (d : Option Addr) (fs : List (Str × D)) : Prop := fs = [] ∨ ∃ dx vs, d = some dx ∧ F dx = some (.xd vs) ∧ FsRep K F vs fs
def XRel (K : PySem.W.Frag) (T : Tz) (F : Hp) (A : MH) (H : Hp) : Prop := T.iv F ∧ ∀ C fs d A' H' F', T.x2 C fs A' → Go0 K T.tb F A H F' A' H' → XD K F' d fs → T.xe (.ref C) d H'
theorem XRel.mono {K : PySem.W.Frag} {T : Tz} {F F1 : Hp} {A A1 : MH} {H H1 : Hp} (x : XRel K T F A H) (g : Go0 K T.tb F A H F1 A1 H1) : XRel K T F1 A1 H1 :=
  ⟨T.mono g.ext x.1, fun C fs d A' H' F' p g2 r => x.2 C fs d A' H' F' p (g.trans g2) r⟩
structure RS (K : PySem.W.Frag) (T : Tz) (F : Hp) (A : MH) (H : Hp) : Prop where
  r0 : RS0 K T.tb F A H
  xr : XRel K T F A H
structure Go (K : PySem.W.Frag) (T : Tz) (F : Hp) (A : MH) (H : Hp) (F' : Hp) (A' : MH) (H' : Hp) : Prop where
  g0 : Go0 K T.tb F A H F' A' H'
  x0 : XRel K T F A H
section
variable {K : PySem.W.Frag} {T : Tz} {F F1 F2 : Hp} {A A1 A2 : MH} {H H1 H2 : Hp}
theorem RS.sub (R : RS K T F A H) : Same F H := R.r0.sub
theorem RS.mem (R : RS K T F A H) : ∀ a o, A a = some o → F a = none ∧ MoRep K F H a o := R.r0.mem
theorem RS.tab (R : RS K T F A H) : LamX.Tabs T.tb H := R.r0.tab
theorem RS.pl (R : RS K T F A H) : ∀ a u, F a = some u → Plain u := R.r0.pl
theorem RS.free (R : RS K T F A H) {p : Addr} (h : H p = none) : F p = none ∧ A p = none := R.r0.free h
theorem Go.ext (g : Go K T F A H F1 A1 H1) : Same F F1 := g.g0.ext
theorem Go.rs (g : Go K T F A H F1 A1 H1) : RS K T F1 A1 H1 := ⟨g.g0.rs, g.x0.mono g.g0⟩
theorem Go.kp (g : Go K T F A H F1 A1 H1) : ∀ b u, H b = some u → A b = none → Plain u → H1 b = some u ∧ A1 b = none ∧ (Wr u → F b = none → F1 b = none) := g.g0.kp
theorem RS.to (R : RS K T F A H) (g : Go0 K T.tb F A H F1 A1 H1) : Go K T F A H F1 A1 H1 := ⟨g, R.xr⟩
theorem RS.go (R : RS K T F A H) : Go K T F A H F A H := R.to R.r0.go
theorem Go.trans (a : Go K T F A H F1 A1 H1) (b : Go K T F1 A1 H1 F2 A2 H2) : Go K T F A H F2 A2 H2 := ⟨a.g0.trans b.g0, a.x0⟩
theorem RS.goF (R : RS K T F A H) {p : Addr} {u : HO} (h : H p = none) (pu : Plain u) : Go K T F A H (upd F p u) A (upd H p u) := R.to (R.r0.goF h pu)
theorem RS.goM (R : RS K T F A H) {p : Addr} {u : HO} {m : MO} (h : H p = none) (hm : MoRep K F (upd H p u) p m) : Go K T F A H F (A.set p m) (upd H p u) := R.to (R.r0.goM h hm)
theorem RS.goW (R : RS K T F A H) {p : Addr} {u : HO} {m m0 : MO} (h : A p = some m0) (hm : MoRep K F (upd H p u) p m) : Go K T F A H F (A.set p m) (upd H p u) := R.to (R.r0.goW h hm)
theorem RS.goDel (R : RS K T F A H) (p : Addr) : Go K T F A H F (A.del p) H := R.to (R.r0.goDel p)
theorem RS.goFz (R : RS K T F A H) {p : Addr} {u : HO} {m : MO} (h : A p = some m) (hu : H p = some u) : Go K T F A H (upd F p u) (A.del p) H := R.to (R.r0.goFz h hu)
theorem RS.goFzD (R : RS K T F A H) {p : Addr} {u : HO} {m : MO} (o : Obj) (h : A p = some m) (hu : H p = some u) : Go K T F A H (upd F p (.frz o u)) (A.del p) (upd H p (.frz o u)) := R.to (R.r0.goFzD o h hu)
theorem RS.goB (R : RS K T F A H) {p : Addr} {u : HO} (h : H p = none) : Go K T F A H F A (upd H p u) := R.to (R.r0.go.beside h)
theorem Go.beside (G : Go K T F A H F1 A1 H1) {p : Addr} {u : HO} (h : H1 p = none) : Go K T F A H F1 A1 (upd H1 p u) := ⟨G.g0.beside h, G.x0⟩
theorem Go.aside (G : Go K T F A H F1 A1 H1) {p : Addr} {u u0 : HO} (hn : H p = none) (hF : F1 p = none) (hA : A1 p = none) (h : H1 p = some u0) (pu : Wr u0) : Go K T F A H F1 A1 (upd H1 p u) := ⟨G.g0.aside hn hF hA h pu, G.x0⟩
theorem Go.own (G : Go K T F A H F1 A1 H1) {p : Addr} {m : MO} (hn : H p = none) (hF : F1 p = none) (hm : MoRep K F1 H1 p m) : Go K T F A H F1 (A1.set p m) H1 := ⟨G.g0.own hn hF hm, G.x0⟩
theorem Go.froze (G : Go K T F A H F1 A1 H1) {p : Addr} {u : HO} (hn : H p = none) (hF : F1 p = none) (hA : A1 p = none) (hu : H1 p = some u) (pu : Plain u) : Go K T F A H (upd F1 p u) A1 H1 ∧ Same F1 (upd F1 p u) :=
  ⟨⟨(G.g0.froze hn hF hA hu pu).1, G.x0⟩, (G.g0.froze hn hF hA hu pu).2⟩
/-- steps within which the heap below may have gone another way: from R's state, given the step's own facts -/
theorem RS.via (R : RS K T F A H) (g : Go0 K T.tb F A H F1 A1 H1) : RS K T F1 A1 H1 := (R.to g).rs
end

/-! ### slots -/
abbrev SQ := List (Option D)
inductive Rs (K : PySem.W.Frag) (F : Hp) : SQ → St → Prop
  | nil : Rs K F [] []
  | no {y : Option V} {xs : SQ} {ys : St} : Rs K F xs ys → Rs K F (none :: xs) (y :: ys)
  | yes {d : D} {v : V} {xs : SQ} {ys : St} : Rep K F v d → Rs K F xs ys → Rs K F (some d :: xs) (some v :: ys)
section
variable {K : PySem.W.Frag} {F F' : Hp}
theorem Rs.mono (e : Same F F') : ∀ {s : SQ} {σ : St}, Rs K F s σ → Rs K F' s σ
  | _, _, .nil => .nil
  | _, _, .no r => .no (Rs.mono e r)
  | _, _, .yes h r => .yes (h.mono e) (Rs.mono e r)
theorem Rs.get : ∀ {s : SQ} {σ : St} {i : Nat} {d : D}, Rs K F s σ → s[i]? = some (some d) → ∃ v, σ[i]? = some (some v) ∧ Rep K F v d
  | _, _, _, _, .nil, e => by simp at e
  | _, _, 0, _, .no r, e => by simp at e
  | _, _, 0, _, .yes h r, e => by simp at e; subst e; exact ⟨_, rfl, h⟩
  | _, _, i + 1, d, .no r, e => by
    obtain ⟨v, h1, h2⟩ := Rs.get (i := i) (d := d) r (by simpa using e)
    exact ⟨v, by simpa using h1, h2⟩
  | _, _, i + 1, d, .yes h r, e => by
    obtain ⟨v, h1, h2⟩ := Rs.get (i := i) (d := d) r (by simpa using e)
    exact ⟨v, by simpa using h1, h2⟩
theorem Rs.set {v : V} {d : D} (h : Rep K F v d) : ∀ {s : SQ} {σ : St} (i : Nat), Rs K F s σ → Rs K F (s.set i (some d)) (σ.set i (some v))
  | _, _, _, .nil => .nil
  | _, _, 0, .no r => .yes h r
  | _, _, 0, .yes q r => .yes h r
  | _, _, i + 1, .no r => .no (Rs.set h i r)
  | _, _, i + 1, .yes q r => .yes q (Rs.set h i r)
theorem Rs.forget : ∀ {s : SQ} {σ : St} (i : Nat) (y : Option V), Rs K F s σ → Rs K F (s.set i none) (σ.set i y)
  | _, _, _, _, .nil => .nil
  | _, _, 0, _, .no r => .no r
  | _, _, 0, _, .yes q r => .no r
  | _, _, i + 1, y, .no r => .no (Rs.forget i y r)
  | _, _, i + 1, y, .yes q r => .yes q (Rs.forget i y r)
end
end Qd


set_option Elab.async false
set_option linter.all false
set_option maxRecDepth 100000
set_option maxHeartbeats 4000000
/-! Second layer, part B: readings over data (TQ ..), what they mean (lift ..), judgements PQ, PTQ, PAQ. -/
namespace Qd
open PySem L2

abbrev KQ := D → MH → Prop
abbrev TQ := SQ → MH → KQ → Prop
abbrev TTQ := SQ → MH → (Bool → MH → Prop) → Prop
abbrev TAQ := SQ → MH → (List D → MH → Prop) → Prop
abbrev R2Q := D → D → MH → KQ → Prop
abbrev R1Q := D → MH → KQ → Prop
abbrev RNQ := List D → MH → KQ → Prop

section
variable (K : PySem.W.Frag) (T : Tz)
def lift (t : TQ) : TE := fun σ H Q => ∃ F A s, Rs K F s σ ∧ RS K T F A H ∧ ∃ P : KQ, t s A P ∧ ∀ d A' v H' F', P d A' → Go K T F A H F' A' H' → Rep K F' v d → Q v H'
def liftT (t : TTQ) : TT := fun σ H Q => ∃ F A s, Rs K F s σ ∧ RS K T F A H ∧ ∃ P : Bool → MH → Prop, t s A P ∧ ∀ b A' H' F', P b A' → Go K T F A H F' A' H' → Q b H'
def liftA (t : TAQ) : TA := fun σ H Q => ∃ F A s, Rs K F s σ ∧ RS K T F A H ∧ ∃ P : List D → MH → Prop, t s A P ∧ ∀ ds A' vs H' F', P ds A' → Go K T F A H F' A' H' → Reps K F' vs ds → Q vs H'
/-- an operation on two values, on one, a call -/
def Rel2 (R : R2) (r : R2Q) : Prop := ∀ {F A H x y xv yv} {P : KQ} {Q : VK}, RS K T F A H → Rep K F xv x → Rep K F yv y → r x y A P → (∀ d A' v H' F', P d A' → Go K T F A H F' A' H' → Rep K F' v d → Q v H') → R xv yv H Q
def Rel1 (R : V → Hp → VK → Prop) (r : R1Q) : Prop := ∀ {F A H x xv} {P : KQ} {Q : VK}, RS K T F A H → Rep K F xv x → r x A P → (∀ d A' v H' F', P d A' → Go K T F A H F' A' H' → Rep K F' v d → Q v H') → R xv H Q
def RelN (R : List V → Hp → VK → Prop) (r : RNQ) : Prop := ∀ {F A H xs xv} {P : KQ} {Q : VK}, RS K T F A H → Reps K F xv xs → r xs A P → (∀ d A' v H' F', P d A' → Go K T F A H F' A' H' → Rep K F' v d → Q v H') → R xv H Q
end

structure PQ (X : Cx) (T : Tz) (e : Expr) (t : TQ) : Prop where
  pe : PE X e (lift X.K T t)
structure PTQ (X : Cx) (T : Tz) (e : Expr) (t : TTQ) : Prop where
  pt : PT X e (liftT X.K T t)
structure PWQ (X : Cx) (T : Tz) (e : Expr) (t : TTQ) : Prop where
  pw : PW X e (liftT X.K T t)
structure PAQ (X : Cx) (T : Tz) (es : List Expr) (t : TAQ) : Prop where
  pa : PA X es (liftA X.K T t)
theorem PWQ.pt {X : Cx} {T : Tz} {e : Expr} {t : TTQ} (h : PWQ X T e t) : PTQ X T e t := ⟨h.pw.pt⟩

/-! weaker readings -/
theorem _root_.L2.PE.wk {X : Cx} {e : Expr} {t u : TE} (h : PE X e t) (w : ∀ σ H Q, u σ H Q → t σ H Q) : PE X e u := ⟨fun pins s σ H Q I q => h.run pins s σ H Q I (w _ _ _ q)⟩
theorem _root_.L2.PT.wk {X : Cx} {e : Expr} {t u : TT} (h : PT X e t) (w : ∀ σ H Q, u σ H Q → t σ H Q) : PT X e u := ⟨fun pins s σ H Q I q => h.run pins s σ H Q I (w _ _ _ q)⟩
theorem _root_.L2.PW.wk {X : Cx} {e : Expr} {t u : TT} (h : PW X e t) (w : ∀ σ H Q, u σ H Q → t σ H Q) : PW X e u := ⟨fun wh pins s σ H Q I q => h.run wh pins s σ H Q I (w _ _ _ q)⟩
theorem _root_.L2.PA.wk {X : Cx} {e : List Expr} {t u : TA} (h : PA X e t) (w : ∀ σ H Q, u σ H Q → t σ H Q) : PA X e u := ⟨fun pos pins s σ H Q I q => h.run pos pins s σ H Q I (w _ _ _ q)⟩
theorem _root_.L2.PS.wk {X : Cx} {e : Stmt} {t u : TS} (h : PS X e t) (w : ∀ D σ H, u D σ H → t D σ H) : PS X e u := ⟨fun pins s σ H D I q => h.run pins s σ H D I (w _ _ _ q)⟩
theorem _root_.L2.PSs.wk {X : Cx} {e : List Stmt} {t u : TS} (h : PSs X e t) (w : ∀ D σ H, u D σ H → t D σ H) : PSs X e u := ⟨fun pins s σ H D I q => h.run pins s σ H D I (w _ _ _ q)⟩
/-- behind an expression a ghost step -/
theorem _root_.L2.PE.ghost {X : Cx} {e : Expr} {t u : TE} (h : PE X e t) (w : ∀ pins σ H Q, u σ H Q → t σ H fun v H1 => ∀ s, Inv X pins σ H1 s → ∃ H2, Inv X pins σ H2 s ∧ Q v H2) : PE X e u := ⟨fun pins s σ H Q I q =>
  thn (h.run pins s σ H _ I (w pins σ H Q q)) fun v s1 ⟨x, H1, I1, r1, q1⟩ => by
    obtain ⟨H2, I2, q2⟩ := q1 s1 I1
    exact ⟨x, H2, I2, r1, q2⟩⟩

section
variable {X : Cx} {T : Tz} {a b c : Expr} {ta tb tc : TQ} {pos : Pos}
/-! ### names, constants -/
def qVar (i : Nat) : TQ := fun s A P => match s[i]? with | some (some d) => P d A | _ => False
def qC (d : D) : TQ := fun _ A P => P d A
theorem liftC {K : PySem.W.Frag} {d : D} {v : V} (hv : ∀ F, Rep K F v d) (σ : St) (H : Hp) (Q : VK) (h : lift K T (qC d) σ H Q) : tC v σ H Q := by
  obtain ⟨F, A, s, hs, hR, P, ht, k⟩ := h
  exact k d A v H F ht hR.go (hv F)
theorem qv (i : Nat) {x : Str} (hN : X.N[i]? = some x := by rfl) (hv : Vis X.env.scope x := by first | exact Or.inl rfl | exact Or.inr (Or.inl rfl) | exact Or.inr (Or.inr rfl)) (hd : (x == ("__debug__" : Str)) = false := by decide)
    (hcd : (x == ("__classdict__" : Str)) = false := by decide) : PQ X T (.Name x pos) (qVar i) := ⟨(pe_var hN hv hd hcd).wk fun σ H Q h => by
  obtain ⟨F, A, s, hs, hR, P, ht, k⟩ := h
  unfold qVar at ht
  split at ht
  · rename_i d e
    obtain ⟨v, e1, r1⟩ := hs.get e
    exact ⟨v, e1, k d A v H F ht hR.go r1⟩
  · exact ht.elim⟩
theorem pq_int {i j} : PQ X T (.Constant (.int i) j pos) (qC (.int i)) := ⟨pe_int.wk (liftC fun _ => .int i)⟩
theorem pq_bl {i j} : PQ X T (.Constant (.bool i) j pos) (qC (.bl i)) := ⟨pe_bl.wk (liftC fun _ => .bl i)⟩
theorem pq_non {j} : PQ X T (.Constant .none j pos) (qC .non) := ⟨pe_non.wk (liftC fun _ => .non)⟩
theorem pq_str {i j} : PQ X T (.Constant (.str i) j pos) (qC (.str i)) := ⟨pe_str.wk (liftC fun _ => .str i)⟩
/-- a module's text constant -/
theorem pq_gstr {x z : Str} {t : Tok} (hm : X.mg x = some (.str z t)) (hg : Gl X x := by rfl) (hd : (x == ("__debug__" : Str)) = false := by decide) : PQ X T (.Name x pos) (qC (.str z)) :=
  ⟨(pe_glob (v := .str z) hg hm ⟨t, rfl⟩ hd).wk (liftC fun _ => .str z)⟩
/-- a built-in class as a value -/
theorem pq_ty {x : Str} {n : String} (hm : X.mg x = none) (hv : bootBuiltins x = some (.type n) := by decide +kernel) (hg : Gl X x := by rfl) (hn : x ≠ "__name__" := by decide) (hd : (x == ("__debug__" : Str)) = false := by decide) : PQ X T (.Name x pos) (qC (.ty n)) :=
  ⟨(pe_bltn (v := .ty n) hg hm hv rfl hn hd).wk (liftC fun _ => .ty n)⟩

/-! ### operators -/
def qOp (r : R2Q) (ta tb : TQ) : TQ := fun s A P => ta s A fun x A1 => tb s A1 fun y A2 => r x y A2 P
theorem lift_op {K : PySem.W.Frag} {R : R2} {r : R2Q} (rel : Rel2 K T R r) {σ : St} {H : Hp} {Q : VK} (h : lift K T (qOp r ta tb) σ H Q) : tOp R (lift K T ta) (lift K T tb) σ H Q := by
  obtain ⟨F, A, s, hs, hR, P, ht, k⟩ := h
  refine ⟨F, A, s, hs, hR, _, ht, fun x A1 xv H1 F1 p1 g1 r1 => ?_⟩
  refine ⟨F1, A1, s, hs.mono g1.ext, g1.rs, _, p1, fun y A2 yv H2 F2 p2 g2 r2 => ?_⟩
  exact rel g2.rs (r1.mono g2.ext) r2 p2 fun d A' v H' F' p g rr => k d A' v H' F' p ((g1.trans g2).trans g) rr
theorem pq_op {op : Operator} {R : R2} {r : R2Q} (rel : Rel2 X.K T R r) (ho : OpR X (binaryOp op) R) (ha : PQ X T a ta) (hb : PQ X T b tb) : PQ X T (.BinOp a op b pos) (qOp r ta tb) :=
  ⟨(pe_op ho ha.pe hb.pe).wk fun _ _ _ h => lift_op rel h⟩
def qUn (r : R1Q) (ta : TQ) : TQ := fun s A P => ta s A fun x A1 => r x A1 P
theorem lift_un {K : PySem.W.Frag} {R : V → Hp → VK → Prop} {r : R1Q} (rel : Rel1 K T R r) {σ : St} {H : Hp} {Q : VK} (h : lift K T (qUn r ta) σ H Q) : tUn R (lift K T ta) σ H Q := by
  obtain ⟨F, A, s, hs, hR, P, ht, k⟩ := h
  refine ⟨F, A, s, hs, hR, _, ht, fun x A1 xv H1 F1 p1 g1 r1 => ?_⟩
  exact rel g1.rs r1 p1 fun d A' v H' F' p g rr => k d A' v H' F' p (g1.trans g) rr
theorem pq_un {op : UnaryOp} {R : V → Hp → VK → Prop} {r : R1Q} (rel : Rel1 X.K T R r) (ho : UnR X (unaryOp op) R) (ha : PQ X T a ta) : PQ X T (.UnaryOp op a pos) (qUn r ta) :=
  ⟨(pe_un ho ha.pe).wk fun _ _ _ h => lift_un rel h⟩
theorem pq_cmp {op : CmpOp} {R : R2} {r : R2Q} (rel : Rel2 X.K T R r) (ho : OpR X (compareOp op) R) (ha : PQ X T a ta) (hb : PQ X T b tb) (hm : behindInMarks op b = false) : PQ X T (.Compare a [op] [b] pos) (qOp r ta tb) :=
  ⟨(pe_cmpR ho ha.pe hb.pe hm).wk fun _ _ _ h => lift_op rel h⟩
/-- a value as a test -/
def qTest (t : TQ) : TTQ := fun s A P => t s A fun x A1 => match x with | .bl k => P k A1 | _ => False
theorem lift_test {K : PySem.W.Frag} {t : TQ} {u : TE} (hu : ∀ {σ H Q}, lift K T t σ H Q → u σ H Q) {σ : St} {H : Hp} {Q : Bool → Hp → Prop} (h : liftT K T (qTest t) σ H Q) : u σ H fun x H' => ∃ k, x = .bl k ∧ Q k H' := by
  obtain ⟨F, A, s, hs, hR, P, ht, k⟩ := h
  refine hu ⟨F, A, s, hs, hR, _, ht, fun x A1 xv H1 F1 p1 g1 r1 => ?_⟩
  cases x <;> first | exact False.elim p1 | skip
  cases r1
  exact ⟨_, rfl, k _ _ _ _ p1 g1⟩
theorem ptq_cmp {op : CmpOp} {R : R2} {r : R2Q} (rel : Rel2 X.K T R r) (ho : OpR X (compareOp op) R) (ha : PQ X T a ta) (hb : PQ X T b tb) (hm : behindInMarks op b = false) : PTQ X T (.Compare a [op] [b] pos) (qTest (qOp r ta tb)) :=
  ⟨(pt_cmpR ho ha.pe hb.pe hm).wk fun _ _ _ h => lift_test (u := tOp R (lift X.K T ta) (lift X.K T tb)) (fun h => lift_op rel h) h⟩
/-- a op1 b op2 c -/
def qChain (r r' : R2Q) (ta tb tc : TQ) : TQ := fun s A P => ta s A fun x A1 => tb s A1 fun y A2 => r x y A2 fun z A3 => match z with | .bl true => tc s A3 fun w A4 => r' y w A4 P | .bl false => P (.bl false) A3 | _ => False
theorem lift_chain {K : PySem.W.Frag} {R R' : R2} {r r' : R2Q} (rel : Rel2 K T R r) (rel' : Rel2 K T R' r') {σ : St} {H : Hp} {Q : VK} (h : lift K T (qChain r r' ta tb tc) σ H Q) : tChain R R' (lift K T ta) (lift K T tb) (lift K T tc) σ H Q := by
  obtain ⟨F, A, s, hs, hR, P, ht, k⟩ := h
  refine ⟨F, A, s, hs, hR, _, ht, fun x A1 xv H1 F1 p1 g1 r1 => ?_⟩
  refine ⟨F1, A1, s, hs.mono g1.ext, g1.rs, _, p1, fun y A2 yv H2 F2 p2 g2 r2 => ?_⟩
  refine rel g2.rs (r1.mono g2.ext) r2 p2 fun z A3 zv H3 F3 p3 g3 r3 => ?_
  cases z with
  | bl kk =>
    cases r3
    refine ⟨kk, rfl, ?_⟩
    cases kk with
    | true =>
      rw [if_pos rfl]
      refine ⟨F3, A3, s, hs.mono ((g1.trans g2).trans g3).ext, g3.rs, _, p3, fun w A4 wv H4 F4 p4 g4 r4 => ?_⟩
      exact rel' g4.rs (r2.mono (g3.trans g4).ext) r4 p4 fun d A' v H' F' p g rr => k d A' v H' F' p ((((g1.trans g2).trans g3).trans g4).trans g) rr
    | false =>
      rw [if_neg Bool.false_ne_true]
      exact k _ _ _ _ _ p3 ((g1.trans g2).trans g3) (.bl false)
  | _ => exact False.elim p3
theorem pq_chain {op op' : CmpOp} {R R' : R2} {r r' : R2Q} (rel : Rel2 X.K T R r) (rel' : Rel2 X.K T R' r') (ho : OpR X (compareOp op) R) (ho' : OpR X (compareOp op') R') (ha : PQ X T a ta) (hb : PQ X T b tb) (hc : PQ X T c tc)
    (hm : lastMarks [op, op'] [b, c] = false := by rfl) : PQ X T (.Compare a [op, op'] [b, c] pos) (qChain r r' ta tb tc) :=
  ⟨(pe_chain ho ho' ha.pe hb.pe hc.pe hm).wk fun _ _ _ h => lift_chain rel rel' h⟩
theorem ptq_chain {op op' : CmpOp} {R R' : R2} {r r' : R2Q} (rel : Rel2 X.K T R r) (rel' : Rel2 X.K T R' r') (ho : OpR X (compareOp op) R) (ho' : OpR X (compareOp op') R') (ha : PQ X T a ta) (hb : PQ X T b tb) (hc : PQ X T c tc)
    (hm : lastMarks [op, op'] [b, c] = false := by rfl) : PTQ X T (.Compare a [op, op'] [b, c] pos) (qTest (qChain r r' ta tb tc)) :=
  ⟨(pt_chain ho ho' ha.pe hb.pe hc.pe hm).wk fun _ _ _ h => lift_test (u := tChain R R' (lift X.K T ta) (lift X.K T tb) (lift X.K T tc)) (fun h => lift_chain rel rel' h) h⟩

/-! ### tests, and, or, not -/
/-- an expression that gives True or False -/
theorem ptq_val {t : TQ} {e : Expr} (h : PQ X T e t) (he : ∀ whole, isTrue e X.env whole = (do let v ← whole; standAt e.pos; holding [v] (truthy v)) := by intro _; rfl) : PTQ X T e (qTest t) :=
  ⟨(pt_val h.pe he).wk fun _ _ _ h => lift_test (u := lift X.K T t) (fun h => h) h⟩
variable {tA tB : TTQ} {rest : List Expr}
def qAnd (t u : TTQ) : TTQ := fun s A P => t s A fun k A1 => if k = true then u s A1 P else P false A1
def qOr (t u : TTQ) : TTQ := fun s A P => t s A fun k A1 => if k = true then P true A1 else u s A1 P
def qNot (t : TTQ) : TTQ := fun s A P => t s A fun k A1 => P (!k) A1
theorem pwq_and1 (ha : PTQ X T a tA) : PWQ X T (.BoolOp .And [a] pos) tA := ⟨pw_and1 ha.pt⟩
theorem pwq_or1 (ha : PTQ X T a tA) : PWQ X T (.BoolOp .Or [a] pos) tA := ⟨pw_or1 ha.pt⟩
theorem pwq_and (ha : PTQ X T a tA) (hb : PWQ X T (.BoolOp .And (b :: rest) pos) tB) : PWQ X T (.BoolOp .And (a :: b :: rest) pos) (qAnd tA tB) := ⟨(pw_and ha.pt hb.pw).wk fun σ H Q h => by
  obtain ⟨F, A, s, hs, hR, P, ht, k⟩ := h
  refine ⟨F, A, s, hs, hR, _, ht, fun c A1 H1 F1 p1 g1 => ?_⟩
  cases c with
  | true =>
    rw [if_pos rfl]
    rw [if_pos rfl] at p1
    exact ⟨F1, A1, s, hs.mono g1.ext, g1.rs, _, p1, fun c2 A2 H2 F2 p2 g2 => k _ _ _ _ p2 (g1.trans g2)⟩
  | false =>
    rw [if_neg Bool.false_ne_true]
    rw [if_neg Bool.false_ne_true] at p1
    exact k _ _ _ _ p1 g1⟩
theorem pwq_or (ha : PTQ X T a tA) (hb : PWQ X T (.BoolOp .Or (b :: rest) pos) tB) : PWQ X T (.BoolOp .Or (a :: b :: rest) pos) (qOr tA tB) := ⟨(pw_or ha.pt hb.pw).wk fun σ H Q h => by
  obtain ⟨F, A, s, hs, hR, P, ht, k⟩ := h
  refine ⟨F, A, s, hs, hR, _, ht, fun c A1 H1 F1 p1 g1 => ?_⟩
  cases c with
  | true =>
    rw [if_pos rfl]
    rw [if_pos rfl] at p1
    exact k _ _ _ _ p1 g1
  | false =>
    rw [if_neg Bool.false_ne_true]
    rw [if_neg Bool.false_ne_true] at p1
    exact ⟨F1, A1, s, hs.mono g1.ext, g1.rs, _, p1, fun c2 A2 H2 F2 p2 g2 => k _ _ _ _ p2 (g1.trans g2)⟩⟩
theorem ptq_not (ha : PTQ X T a tA) : PTQ X T (.UnaryOp .Not a pos) (qNot tA) := ⟨(pt_not ha.pt).wk fun σ H Q h => by
  obtain ⟨F, A, s, hs, hR, P, ht, k⟩ := h
  exact ⟨F, A, s, hs, hR, _, ht, fun c A1 H1 F1 p1 g1 => k _ _ _ _ p1 g1⟩⟩
def qAndV (ta tb : TQ) : TQ := fun s A P => ta s A fun x A1 => match x with | .bl true => tb s A1 P | .bl false => P (.bl false) A1 | _ => False
def qOrV (ta tb : TQ) : TQ := fun s A P => ta s A fun x A1 => match x with | .bl false => tb s A1 P | .bl true => P (.bl true) A1 | _ => False
def qNotV (ta : TQ) : TQ := fun s A P => ta s A fun x A1 => match x with | .bl k => P (.bl (!k)) A1 | _ => False
theorem pq_one {op} {t : TQ} (h : PQ X T a t) : PQ X T (.BoolOp op [a] pos) t := ⟨pe_one h.pe⟩
theorem pq_and (ha : PQ X T a ta) (hb : PQ X T (.BoolOp .And (b :: rest) pos) tb) : PQ X T (.BoolOp .And (a :: b :: rest) pos) (qAndV ta tb) := ⟨(pe_and ha.pe hb.pe).wk fun σ H Q h => by
  obtain ⟨F, A, s, hs, hR, P, ht, k⟩ := h
  refine ⟨F, A, s, hs, hR, _, ht, fun x A1 xv H1 F1 p1 g1 r1 => ?_⟩
  cases x with
  | bl c =>
    cases r1
    refine ⟨c, rfl, ?_⟩
    cases c with
    | true => exact ⟨F1, A1, s, hs.mono g1.ext, g1.rs, _, p1, fun y A2 yv H2 F2 p2 g2 r2 => k _ _ _ _ _ p2 (g1.trans g2) r2⟩
    | false => exact k _ _ _ _ _ p1 g1 (.bl _)
  | _ => exact False.elim p1⟩
theorem pq_or (ha : PQ X T a ta) (hb : PQ X T (.BoolOp .Or (b :: rest) pos) tb) : PQ X T (.BoolOp .Or (a :: b :: rest) pos) (qOrV ta tb) := ⟨(pe_or ha.pe hb.pe).wk fun σ H Q h => by
  obtain ⟨F, A, s, hs, hR, P, ht, k⟩ := h
  refine ⟨F, A, s, hs, hR, _, ht, fun x A1 xv H1 F1 p1 g1 r1 => ?_⟩
  cases x with
  | bl c =>
    cases r1
    refine ⟨c, rfl, ?_⟩
    cases c with
    | false => exact ⟨F1, A1, s, hs.mono g1.ext, g1.rs, _, p1, fun y A2 yv H2 F2 p2 g2 r2 => k _ _ _ _ _ p2 (g1.trans g2) r2⟩
    | true => exact k _ _ _ _ _ p1 g1 (.bl _)
  | _ => exact False.elim p1⟩
theorem pq_not (ha : PQ X T a ta) : PQ X T (.UnaryOp .Not a pos) (qNotV ta) := ⟨(pe_not ha.pe).wk fun σ H Q h => by
  obtain ⟨F, A, s, hs, hR, P, ht, k⟩ := h
  refine ⟨F, A, s, hs, hR, _, ht, fun x A1 xv H1 F1 p1 g1 r1 => ?_⟩
  cases x with
  | bl c =>
    cases r1
    exact ⟨c, rfl, k _ _ _ _ _ p1 g1 (.bl _)⟩
  | _ => exact False.elim p1⟩
def qIf (t : TTQ) (ta tb : TQ) : TQ := fun s A P => t s A fun k A1 => if k = true then ta s A1 P else tb s A1 P
theorem pq_if (hc : PTQ X T c tA) (ha : PQ X T a ta) (hb : PQ X T b tb) : PQ X T (.IfExp c a b pos) (qIf tA ta tb) := ⟨(pe_ifExp hc.pt ha.pe hb.pe).wk fun σ H Q h => by
  obtain ⟨F, A, s, hs, hR, P, ht, k⟩ := h
  refine ⟨F, A, s, hs, hR, _, ht, fun c A1 H1 F1 p1 g1 => ?_⟩
  cases c with
  | true =>
    rw [if_pos rfl]
    rw [if_pos rfl] at p1
    exact ⟨F1, A1, s, hs.mono g1.ext, g1.rs, _, p1, fun y A2 yv H2 F2 p2 g2 r2 => k _ _ _ _ _ p2 (g1.trans g2) r2⟩
  | false =>
    rw [if_neg Bool.false_ne_true]
    rw [if_neg Bool.false_ne_true] at p1
    exact ⟨F1, A1, s, hs.mono g1.ext, g1.rs, _, p1, fun y A2 yv H2 F2 p2 g2 r2 => k _ _ _ _ _ p2 (g1.trans g2) r2⟩⟩

/-! ### argument lists, displays, calls of built-ins by value -/
variable {e : Expr} {es : List Expr} {te : TQ} {t : TAQ}
def qNil : TAQ := fun _ A P => P [] A
def qCons (ta : TQ) (tr : TAQ) : TAQ := fun s A P => ta s A fun x A1 => tr s A1 fun xs A2 => P (x :: xs) A2
theorem lift_nil {K : PySem.W.Frag} {σ : St} {H : Hp} {Q : List V → Hp → Prop} (h : liftA K T qNil σ H Q) : tNil σ H Q := by
  obtain ⟨F, A, s, hs, hR, P, ht, k⟩ := h
  exact k _ _ _ _ _ ht hR.go .nil
theorem paq_nil : PAQ X T [] qNil := ⟨pa_nil.wk fun _ _ _ h => lift_nil h⟩
theorem lift_cons {K : PySem.W.Frag} {σ : St} {H : Hp} {Q : List V → Hp → Prop} (h : liftA K T (qCons te t) σ H Q) : tCons (lift K T te) (liftA K T t) σ H Q := by
  obtain ⟨F, A, s, hs, hR, P, ht, k⟩ := h
  refine ⟨F, A, s, hs, hR, _, ht, fun x A1 xv H1 F1 p1 g1 r1 => ?_⟩
  exact ⟨F1, A1, s, hs.mono g1.ext, g1.rs, _, p1, fun ys A2 yv H2 F2 p2 g2 r2 => k _ _ _ _ _ p2 (g1.trans g2) (.cons (r1.mono g2.ext) r2)⟩
theorem paq_cons (ha : PQ X T e te) (hr : PAQ X T es t) (hs : starEach (e :: es) X.env = (false, eval e X.env) :: starEach es X.env := by rfl) : PAQ X T (e :: es) (qCons te t) := ⟨(pa_cons ha.pe hr.pa hs).wk fun _ _ _ h => lift_cons h⟩
/-- the values of a call's arguments handed to a rule -/
def qCB (r : RNQ) (t : TAQ) : TQ := fun s A P => t s A fun xs A1 => r xs A1 P
theorem lift_cb {K : PySem.W.Frag} {R : List V → Hp → VK → Prop} {r : RNQ} (rel : RelN K T R r) {σ : St} {H : Hp} {Q : VK} (h : lift K T (qCB r t) σ H Q) : tCB R (liftA K T t) σ H Q := by
  obtain ⟨F, A, s, hs, hR, P, ht, k⟩ := h
  refine ⟨F, A, s, hs, hR, _, ht, fun x A1 xv H1 F1 p1 g1 r1 => ?_⟩
  exact rel g1.rs r1 p1 fun d A' v H' F' p g rr => k d A' v H' F' p (g1.trans g) rr
theorem pq_callB {x : Str} {id : String} {p : Pos} {R : List V → Hp → VK → Prop} {r : RNQ} (rel : RelN X.K T R r) (hc : CallR X (.builtin id) R) (hm : X.mg x = none) (ha : PAQ X T (e :: es) t) (hv : bootBuiltins x = some (.builtin id) := by decide +kernel) (hg : Gl X x := by rfl)
    (hn : x ≠ "__name__" := by decide) (hdb : (x == ("__debug__" : Str)) = false := by decide)
    (he : starEach (e :: es) X.env = (false, eval e X.env) :: starEach es X.env := by rfl) (hpl : (backTo pos (starEach es X.env)).any (·.1) = false := by rfl) : PQ X T (.Call (.Name x p) (e :: es) [] pos) (qCB r t) :=
  ⟨(pe_callB hc hg hm hv ha.pa hn hdb he hpl).wk fun _ _ _ h => lift_cb rel h⟩
theorem pq_callTy {x : Str} {id : String} {p : Pos} {R : List V → Hp → VK → Prop} {r : RNQ} (rel : RelN X.K T R r) (hc : CallR X (.type id) R) (hm : X.mg x = none) (ha : PAQ X T (e :: es) t) (hv : bootBuiltins x = some (.type id) := by decide +kernel) (hg : Gl X x := by rfl)
    (hn : x ≠ "__name__" := by decide) (hdb : (x == ("__debug__" : Str)) = false := by decide)
    (he : starEach (e :: es) X.env = (false, eval e X.env) :: starEach es X.env := by rfl) (hpl : (backTo pos (starEach es X.env)).any (·.1) = false := by rfl) : PQ X T (.Call (.Name x p) (e :: es) [] pos) (qCB r t) :=
  ⟨(pe_callTy hc hg hm hv ha.pa hn hdb he hpl).wk fun _ _ _ h => lift_cb rel h⟩

/-- what becomes of a new list: m: it may change; else it is frozen -/
def newL (m : Bool) (ds : List D) (A : MH) (P : KQ) : Prop := if m = true then ∀ a, A a = none → P (.mut a) (A.set a (.lst ds)) else P (.lst ds) A
theorem newL_ok {K : PySem.W.Frag} {m : Bool} {ds : List D} {A : MH} {P : KQ} {F : Hp} {H : Hp} {vs : List V} {p : Addr} {Q : VK} (R : RS K T F A H) (h : newL m ds A P) (r : Reps K F vs ds) (hp : H p = none)
    (k : ∀ d A' v H' F', P d A' → Go K T F A H F' A' H' → Rep K F' v d → Q v H') : Q (.ref p) (upd H p (.lst vs)) := by
  unfold newL at h
  cases m with
  | true =>
    rw [if_pos rfl] at h
    exact k _ _ _ _ F (h p (R.free hp).2) (R.goM hp ⟨vs, upd_same, r⟩) (.mut p)
  | false =>
    rw [if_neg Bool.false_ne_true] at h
    have g := R.goF (u := .lst vs) hp trivial
    exact k _ _ _ _ _ h g (.lst upd_same (r.mono g.ext))
def qTup (t : TAQ) : TQ := fun s A P => t s A fun xs A1 => xs.length ≤ 100000 ∧ P (.tup xs) A1
def qLst (m : Bool) (t : TAQ) : TQ := fun s A P => t s A fun xs A1 => xs.length ≤ 100000 ∧ newL m xs A1 P
theorem newT_ok {K : PySem.W.Frag} {ds : List D} {A : MH} {P : KQ} {F : Hp} {H : Hp} {vs : List V} {p : Addr} {Q : VK} (R : RS K T F A H) (h : P (.tup ds) A) (r : Reps K F vs ds) (hp : H p = none)
    (k : ∀ d A' v H' F', P d A' → Go K T F A H F' A' H' → Rep K F' v d → Q v H') : Q (.ref p) (upd H p (.tup vs)) := by
  have g := R.goF (u := .tup vs) hp trivial
  exact k _ _ _ _ _ h g (.tup (.of upd_same) (r.mono g.ext))
theorem pq_tup {x1} (h : PAQ X T es t) : PQ X T (.Tuple es x1 pos) (qTup t) := ⟨(pe_tup h.pa).wk fun σ H Q h => by
  obtain ⟨F, A, s, hs, hR, P, ht, k⟩ := h
  refine ⟨F, A, s, hs, hR, _, ht, fun xs A1 vs H1 F1 p1 g1 r1 => ⟨by rw [r1.length]; exact Evl.sz_of p1.1, fun p hp => ?_⟩⟩
  exact newT_ok g1.rs p1.2 r1 hp fun d A' v H' F' p g rr => k d A' v H' F' p (g1.trans g) rr⟩
theorem pq_lst (m : Bool) (h : PAQ X T es t) : PQ X T (.List es pos) (qLst m t) := ⟨(pe_lst h.pa).wk fun σ H Q h => by
  obtain ⟨F, A, s, hs, hR, P, ht, k⟩ := h
  refine ⟨F, A, s, hs, hR, _, ht, fun xs A1 vs H1 F1 p1 g1 r1 => ⟨by rw [r1.length]; exact Evl.sz_of p1.1, fun p hp => ?_⟩⟩
  exact newL_ok g1.rs p1.2 r1 hp fun d A' v H' F' p g rr => k d A' v H' F' p (g1.trans g) rr⟩
/-- a list that may change, frozen from here on -/
def qFz (t : TQ) : TQ := fun s A P => t s A fun d A1 => match d with
  | .mut a => match A1 a with
    | some (.lst ds) => P (.lst ds) (A1.del a)
    | _ => False
  | _ => False
theorem pq_fz {t : TQ} (h : PQ X T e t) : PQ X T e (qFz t) := ⟨h.pe.wk fun σ H Q h => by
  obtain ⟨F, A, s, hs, hR, P, ht, k⟩ := h
  refine ⟨F, A, s, hs, hR, _, ht, fun d A1 v H1 F1 p1 g1 r1 => ?_⟩
  split at p1
  · rename_i a
    split at p1
    · rename_i ds hA
      cases r1
      obtain ⟨vs, hH, rv⟩ := (g1.rs.mem a _ hA).2
      have g2 := g1.rs.goFz hA hH
      exact k _ _ _ _ _ p1 (g1.trans g2) (.lst upd_same (rv.mono g2.ext))
    · exact p1.elim
  · exact p1.elim⟩
end
end Qd


set_option Elab.async false
set_option linter.all false
set_option maxRecDepth 100000
set_option maxHeartbeats 4000000
/-! Second layer, part S: statements, targets, loops, comprehensions. -/
namespace Qd
open PySem L2

structure EndsQ where
  nx : SQ → MH → Prop
  rt : KQ
  bk : SQ → MH → Prop := fun _ _ => False
  ct : SQ → MH → Prop := fun _ _ => False
abbrev TSQ := EndsQ → SQ → MH → Prop

section
variable (K : PySem.W.Frag) (T : Tz)
structure EndsRel (F : Hp) (A : MH) (H : Hp) (D2 : EndsQ) (E : Ends) : Prop where
  nx : ∀ s' A' σ' H' F', D2.nx s' A' → Go K T F A H F' A' H' → Rs K F' s' σ' → E.nx σ' H'
  rt : ∀ d A' v H' F', D2.rt d A' → Go K T F A H F' A' H' → Rep K F' v d → E.rt v H'
  bk : ∀ s' A' σ' H' F', D2.bk s' A' → Go K T F A H F' A' H' → Rs K F' s' σ' → E.bk σ' H'
  ct : ∀ s' A' σ' H' F', D2.ct s' A' → Go K T F A H F' A' H' → Rs K F' s' σ' → E.ct σ' H'
def liftS (t : TSQ) : TS := fun D σ H => ∃ F A s, Rs K F s σ ∧ RS K T F A H ∧ ∃ D2 : EndsQ, t D2 s A ∧ EndsRel K T F A H D2 D
end
theorem EndsRel.mono {K : PySem.W.Frag} {T : Tz} {F F1 : Hp} {A A1 : MH} {H H1 : Hp} {D2 : EndsQ} {E : Ends} (r : EndsRel K T F A H D2 E) (g : Go K T F A H F1 A1 H1) : EndsRel K T F1 A1 H1 D2 E :=
  ⟨fun s' A' σ' H' F2 p g2 => r.nx s' A' σ' H' F2 p (g.trans g2), fun d A' v H' F2 p g2 => r.rt d A' v H' F2 p (g.trans g2), fun s' A' σ' H' F2 p g2 => r.bk s' A' σ' H' F2 p (g.trans g2), fun s' A' σ' H' F2 p g2 => r.ct s' A' σ' H' F2 p (g.trans g2)⟩

structure PSQ (X : Cx) (T : Tz) (st : Stmt) (t : TSQ) : Prop where
  ps : PS X st (liftS X.K T t)
structure PSsQ (X : Cx) (T : Tz) (st : List Stmt) (t : TSQ) : Prop where
  ps : PSs X st (liftS X.K T t)

section
variable {X : Cx} {T : Tz} {st : Stmt} {rest : List Stmt} {t u : TSQ} {e : Expr} {te : TQ} {pos : Pos}
def qNext : TSQ := fun D s A => D.nx s A
def qSeq (t u : TSQ) : TSQ := fun D s A => t { D with nx := u D } s A
theorem lift_next {K : PySem.W.Frag} {D : Ends} {σ : St} {H : Hp} (h : liftS K T qNext D σ H) : tNext D σ H := by
  obtain ⟨F, A, s, hs, hR, D2, ht, k⟩ := h
  exact k.nx _ _ _ _ _ ht hR.go hs
theorem psq_nil : PSsQ X T [] qNext := ⟨pss_nil.wk fun _ _ _ h => lift_next h⟩
theorem psq_cons (h1 : PSQ X T st t) (h2 : PSsQ X T rest u) : PSsQ X T (st :: rest) (qSeq t u) := ⟨(pss_cons h1.ps h2.ps).wk fun D σ H h => by
  obtain ⟨F, A, s, hs, hR, D2, ht, k⟩ := h
  refine ⟨F, A, s, hs, hR, _, ht, ⟨fun s' A' σ' H' F' p g hs' => ?_, k.rt, k.bk, k.ct⟩⟩
  exact ⟨F', A', s', hs', g.rs, D2, p, k.mono g⟩⟩
theorem psq_one (h1 : PSQ X T st t) : PSsQ X T [st] t := ⟨pss_one h1.ps⟩
/-- a word between a statement and the rest -/
def qCut (t u : TSQ) : TSQ := fun D s A => ∃ Mid : SQ → MH → Prop, t { D with nx := Mid } s A ∧ ∀ s' A', Mid s' A' → u D s' A'
theorem psq_cut (h1 : PSQ X T st t) (h2 : PSsQ X T rest u) : PSsQ X T (st :: rest) (qCut t u) := ⟨(pss_cons h1.ps h2.ps).wk fun D σ H h => by
  obtain ⟨F, A, s, hs, hR, D2, ⟨Mid, ht, hm⟩, k⟩ := h
  refine ⟨F, A, s, hs, hR, _, ht, ⟨fun s' A' σ' H' F' p g hs' => ?_, k.rt, k.bk, k.ct⟩⟩
  exact ⟨F', A', s', hs', g.rs, D2, hm _ _ p, k.mono g⟩⟩
theorem psq_pass : PSQ X T (.Pass pos) qNext := ⟨ps_pass.wk fun _ _ _ h => lift_next h⟩
def qBreak : TSQ := fun D s A => D.bk s A
def qCont : TSQ := fun D s A => D.ct s A
theorem psq_break : PSQ X T (.Break pos) qBreak := ⟨ps_break.wk fun _ _ _ h => by
  obtain ⟨F, A, s, hs, hR, D2, ht, k⟩ := h
  exact k.bk _ _ _ _ _ ht hR.go hs⟩
theorem psq_cont : PSQ X T (.Continue pos) qCont := ⟨ps_continue.wk fun _ _ _ h => by
  obtain ⟨F, A, s, hs, hR, D2, ht, k⟩ := h
  exact k.ct _ _ _ _ _ ht hR.go hs⟩
theorem psq_doc {x j pos'} : PSQ X T (.Expr (.Constant (.str x) j pos) pos') qNext := ⟨ps_doc.wk fun _ _ _ h => lift_next h⟩
def qDrop (te : TQ) : TSQ := fun D s A => te s A fun _ A1 => D.nx s A1
theorem psq_expr (he : PQ X T e te) (hs : swapsWith e none pos.line X.env = pure false := by rfl) : PSQ X T (.Expr e pos) (qDrop te) := ⟨(ps_expr he.pe hs).wk fun D σ H h => by
  obtain ⟨F, A, s, hs, hR, D2, ht, k⟩ := h
  exact ⟨F, A, s, hs, hR, _, ht, fun d A' v H' F' p g r => k.nx _ _ _ _ _ p g (hs.mono g.ext)⟩⟩
def qRet (te : TQ) : TSQ := fun D s A => te s A D.rt
theorem psq_ret (he : PQ X T e te) : PSQ X T (.Return (some e) pos) (qRet te) := ⟨(ps_ret he.pe).wk fun D σ H h => by
  obtain ⟨F, A, s, hs, hR, D2, ht, k⟩ := h
  exact ⟨F, A, s, hs, hR, _, ht, fun d A' v H' F' p g r => k.rt _ _ _ _ _ p g r⟩⟩
def qRetN : TSQ := fun D _ A => D.rt .non A
theorem psq_retN : PSQ X T (.Return none pos) qRetN := ⟨ps_retN.wk fun D σ H h => by
  obtain ⟨F, A, s, hs, hR, D2, ht, k⟩ := h
  exact k.rt _ _ _ _ _ ht hR.go .non⟩
def qIfS (c : TTQ) (t u : TSQ) : TSQ := fun D s A => c s A fun b A1 => if b = true then t D s A1 else u D s A1
theorem psq_if {c : Expr} {a b : List Stmt} {tc : TTQ} (hc : PTQ X T c tc) (ha : PSsQ X T a t) (hb : PSsQ X T b u) : PSQ X T (.If c a b pos) (qIfS tc t u) := ⟨(ps_if hc.pt ha.ps hb.ps).wk fun D σ H h => by
  obtain ⟨F, A, s, hs, hR, D2, ht, k⟩ := h
  refine ⟨F, A, s, hs, hR, _, ht, fun c A' H' F' p g => ?_⟩
  cases c with
  | true => exact ⟨F', A', s, hs.mono g.ext, g.rs, D2, p, k.mono g⟩
  | false => exact ⟨F', A', s, hs.mono g.ext, g.rs, D2, p, k.mono g⟩⟩
def qNever : TSQ := fun _ _ _ => False
theorem psq_never : PSQ X T st qNever := ⟨ps_never.wk fun D σ H h => by
  obtain ⟨F, A, s, hs, hR, D2, ht, k⟩ := h
  exact ht⟩

/-! ### targets: names, tuples of targets -/
inductive Tgt where
  | nm (i : Nat) | tp (ts : List Tgt)
mutual
def tgG (K : PySem.W.Frag) : Tgt → TG
  | .nm i => gName i
  | .tp ts => gTup K ts.length (tgGs K ts)
def tgGs (K : PySem.W.Frag) : List Tgt → TGs
  | [] => gNil
  | t :: ts => gCons (tgG K t) (tgGs K ts)
end
mutual
def tset : Tgt → D → SQ → Option SQ
  | .nm i, d, s => some (s.set i (some d))
  | .tp ts, .tup ds, s => tsets ts ds s
  | .tp _, _, _ => none
def tsets : List Tgt → List D → SQ → Option SQ
  | [], [], s => some s
  | t :: ts, d :: ds, s => match tset t d s with
    | some s' => tsets ts ds s'
    | none => none
  | _, _, _ => none
end
mutual
def tix : Tgt → List Nat
  | .nm i => [i]
  | .tp ts => tixs ts
def tixs : List Tgt → List Nat
  | [] => []
  | t :: ts => tix t ++ tixs ts
end
/-- but for the places ix all is as it was -/
def SetAt (ix : List Nat) (σ σ' : St) : Prop := σ'.length = σ.length ∧ ∀ j, j ∉ ix → σ'[j]? = σ[j]?
theorem SetAt.refl (ix : List Nat) (σ : St) : SetAt ix σ σ := ⟨rfl, fun _ _ => rfl⟩
theorem SetAt.trans {ix iy : List Nat} {σ σ1 σ2 : St} (a : SetAt ix σ σ1) (b : SetAt iy σ1 σ2) : SetAt (ix ++ iy) σ σ2 :=
  ⟨b.1.trans a.1, fun j hj => (b.2 j fun z => hj (List.mem_append_right _ z)).trans (a.2 j fun z => hj (List.mem_append_left _ z))⟩
theorem wipe_get (σ : St) : ∀ (vs : List Nat) (j : Nat), (wipe σ vs)[j]? = if j ∈ vs ∧ j < σ.length then some none else σ[j]?
  | [], j => by simp [wipe]
  | v :: vs, j => by
    unfold wipe
    rw [List.getElem?_set, wipe_length, wipe_get σ vs j]
    by_cases h : v = j
    · subst h
      by_cases h2 : v < σ.length
      · simp [h2]
      · have h3 : σ.length ≤ v := Nat.le_of_not_lt h2
        simp [h2, List.getElem?_eq_none_iff.mpr h3]
    · have h' : j ≠ v := fun z => h z.symm
      simp [h, h']
theorem SetAt.wipe {ix vs : List Nat} {σ σ' : St} (a : SetAt ix σ σ') (h : ∀ j ∈ ix, j ∈ vs) : wipe σ' vs = wipe σ vs := by
  apply List.ext_getElem?
  intro j
  rw [wipe_get, wipe_get, a.1]
  by_cases hj : j ∈ vs ∧ j < σ.length
  · rw [if_pos hj, if_pos hj]
  · rw [if_neg hj, if_neg hj]
    by_cases hv : j ∈ vs
    · have h3 : σ.length ≤ j := Nat.le_of_not_lt fun z => hj ⟨hv, z⟩
      rw [List.getElem?_eq_none_iff.mpr h3, List.getElem?_eq_none_iff.mpr (by rw [a.1]; exact h3)]
    · exact a.2 j fun z => hv (h j z)
theorem wipe_wipe (σ : St) (vs : List Nat) : wipe (wipe σ vs) vs = wipe σ vs := by
  apply List.ext_getElem?
  intro j
  rw [wipe_get, wipe_get, wipe_length]
  by_cases hj : j ∈ vs ∧ j < σ.length
  · rw [if_pos hj, if_pos hj]
  · rw [if_neg hj, if_neg hj]
section
variable {K : PySem.W.Frag} {F H : Hp} {A : MH}
mutual
theorem tg_ok (R : RS K T F A H) : ∀ (t : Tgt) {v : V} {d : D} {σ : St} {s s' : SQ} {Q : St → Hp → Prop}, Rs K F s σ → Rep K F v d → tset t d s = some s' → (∀ σ', Rs K F s' σ' → SetAt (tix t) σ σ' → Q σ' H) → tgG K t v σ H Q
  | .nm i, v, d, σ, s, s', Q, hs, r, e, k => by
    have e' : s.set i (some d) = s' := by simpa [tset] using e
    subst e'
    refine k _ (hs.set r i) ⟨List.length_set, fun j hj => ?_⟩
    rw [List.getElem?_set_ne]
    intro z
    exact hj (by simp [tix, z])
  | .tp ts, v, d, σ, s, s', Q, hs, r, e, k => by
    cases d with
    | tup ds =>
      cases r with
      | @tup a vs _ hq rr =>
        have e' : tsets ts ds s = some s' := by simpa [tset] using e
        refine ⟨a, vs, rfl, sqT_mono R.sub hq, ?_, ?_⟩
        · rw [rr.length]; exact tsets_len ts ds e'
        · exact tgs_ok R ts hs rr e' fun σ' h1 h2 => k σ' h1 (by simpa [tix] using h2)
    | _ => simp [tset] at e
theorem tgs_ok (R : RS K T F A H) : ∀ (ts : List Tgt) {vs : List V} {ds : List D} {σ : St} {s s' : SQ} {Q : St → Hp → Prop}, Rs K F s σ → Reps K F vs ds → tsets ts ds s = some s' → (∀ σ', Rs K F s' σ' → SetAt (tixs ts) σ σ' → Q σ' H) → tgGs K ts vs σ H Q
  | [], vs, ds, σ, s, s', Q, hs, r, e, k => by
    cases r with
    | nil =>
      have e' : s = s' := by simpa [tsets] using e
      subst e'
      exact ⟨rfl, k _ hs (SetAt.refl _ _)⟩
    | cons _ _ => simp [tsets] at e
  | t :: ts, vs, ds, σ, s, s', Q, hs, r, e, k => by
    cases r with
    | nil => simp [tsets] at e
    | @cons v d vs' ds' r1 rr =>
      have e' : (match tset t d s with | some s1 => tsets ts ds' s1 | none => none) = some s' := by simpa [tsets] using e
      cases h1 : tset t d s with
      | none => rw [h1] at e'; cases e'
      | some s1 =>
        rw [h1] at e'
        refine ⟨v, vs', rfl, tg_ok R t hs r1 h1 fun σ1 q1 q2 => ?_⟩
        exact tgs_ok R ts q1 rr e' fun σ2 q3 q4 => k σ2 q3 (by simpa [tixs] using q2.trans q4)
theorem tsets_len : ∀ (ts : List Tgt) (ds : List D) {s s' : SQ}, tsets ts ds s = some s' → ds.length = ts.length
  | [], [], _, _, _ => rfl
  | [], _ :: _, _, _, e => by simp [tsets] at e
  | _ :: _, [], _, _, e => by simp [tsets] at e
  | t :: ts, d :: ds, s, s', e => by
    have e' : (match tset t d s with | some s1 => tsets ts ds s1 | none => none) = some s' := by simpa [tsets] using e
    cases h1 : tset t d s with
    | none => rw [h1] at e'; cases e'
    | some s1 =>
      rw [h1] at e'
      rw [List.length_cons, List.length_cons, tsets_len ts ds e']
end
end
/-- a target in the text is this one -/
structure PGQ (X : Cx) (tg : Expr) (t : Tgt) : Prop where
  pg : PG X tg (tgG X.K t)
structure PGsQ (X : Cx) (tg : List Expr) (ts : List Tgt) : Prop where
  pg : PGs X tg (tgGs X.K ts)
theorem gq_nm (i : Nat) {x : Str} (hN : X.N.Nodup) (hi : X.N[i]? = some x := by rfl) (hx : Loc X.env.scope x := by first | exact Or.inl rfl | exact Or.inr rfl) (hf : X.fn x = true ∨ X.env.scope.names.lookup x = some .local := by first | exact .inl rfl | exact .inr rfl | assumption) : PGQ X (.Name x pos) (.nm i) :=
  ⟨by
    have h := pg_name (pos := pos) hN hi hx hf
    have e : tgG X.K (.nm i) = gName i := by simp [tgG]
    rw [e]; exact h⟩
theorem gqs_nil : PGsQ X [] [] := ⟨by
    have e : tgGs X.K [] = gNil := by simp [tgGs]
    rw [e]; exact pgs_nil⟩
theorem gqs_cons {tg : Expr} {tgs : List Expr} {t : Tgt} {ts : List Tgt} (h : PGQ X tg t) (hs : PGsQ X tgs ts) (ha : (assignEach (tg :: tgs) X.env).map (·.2) = assign tg X.env :: (assignEach tgs X.env).map (·.2) := by rfl) : PGsQ X (tg :: tgs) (t :: ts) := ⟨by
    have e : tgGs X.K (t :: ts) = gCons (tgG X.K t) (tgGs X.K ts) := by simp [tgGs]
    rw [e]; exact pgs_cons h.pg hs.pg ha⟩
theorem gq_tp {tgs : List Expr} {ts : List Tgt} {k : Nat} (hc : X.calm = true) (hs : PGsQ X tgs ts) (hn : (assignEach tgs X.env).length = ts.length := by rfl) (hst : (assignEach tgs X.env).findIdx? (·.1) = none := by rfl) : PGQ X (.Tuple tgs k pos) (.tp ts) := ⟨by
    have e : tgG X.K (.tp ts) = gTup X.K ts.length (tgGs X.K ts) := by simp [tgG]
    rw [e]; exact pg_tup hc hs.pg hn hst⟩

/-- target = e -/
def qAsg (te : TQ) (t : Tgt) : TSQ := fun D s A => te s A fun d A1 => match tset t d s with | some s' => D.nx s' A1 | none => False
theorem lift_asg {K : PySem.W.Frag} {t : Tgt} {D : Ends} {σ : St} {H : Hp} (h : liftS K T (qAsg te t) D σ H) : tAsg (lift K T te) (tgG K t) D σ H := by
  obtain ⟨F, A, s, hs, hR, D2, ht, k⟩ := h
  refine ⟨F, A, s, hs, hR, _, ht, fun d A' v H' F' p g r => ?_⟩
  cases hq : tset t d s with
  | none => rw [hq] at p; exact p.elim
  | some s' =>
    rw [hq] at p
    exact tg_ok g.rs t (hs.mono g.ext) r hq fun σ' h1 _ => k.nx _ _ _ _ _ p g h1
theorem psq_asg {tg : Expr} {t : Tgt} (he : PQ X T e te) (hg : PGQ X tg t) (hs : swapsWithSole [tg] e pos.line X.env = pure false := by rfl) (hw : swappedStores [tg] e X.env = pure none := by rfl)
    (h1 : (assignEach [tg] X.env).map (·.2) = [assign tg X.env] := by rfl) : PSQ X T (.Assign [tg] e pos) (qAsg te t) := ⟨(ps_asg he.pe hg.pg hs hw h1).wk fun _ _ _ h => lift_asg h⟩
theorem psq_set {i : Nat} {x : Str} {pos' : Pos} (hN : X.N.Nodup) (he : PQ X T e te) (hi : X.N[i]? = some x := by rfl) (hx : Loc X.env.scope x := by first | exact Or.inl rfl | exact Or.inr rfl) (hs : swapsWith e (some (.Name x pos')) pos.line X.env = pure false := by rfl) (hf : X.fn x = true ∨ X.env.scope.names.lookup x = some .local := by first | exact .inl rfl | exact .inr rfl | assumption) :
    PSQ X T (.Assign [.Name x pos'] e pos) (qAsg te (.nm i)) := ⟨(ps_set hN hi hx he.pe hs hf).wk fun _ _ _ h => by
  have h' := lift_asg h
  have e : tgG X.K (.nm i) = gName i := by simp [tgG]
  rw [e] at h'; exact h'⟩
/-- a, b = x, y: two local names -/
def qPar (i j : Nat) (ta : TAQ) : TSQ := fun D s A => ta s A fun ds A1 => match ds with | [x, y] => D.nx ((s.set i (some x)).set j (some y)) A1 | _ => False
theorem psq_par {i j : Nat} {x y : Str} {a b : Expr} {ta : TAQ} {px py pt : Pos} {kt k2 pt2} (hc : X.calm = true) (hN : X.N.Nodup) (hij : i ≠ j) (ha : PAQ X T [a, b] ta)
    (hi : X.N[i]? = some x := by rfl) (hj : X.N[j]? = some y := by rfl) (hx : X.env.scope.names.lookup x = some .local := by rfl) (hy : X.env.scope.names.lookup y = some .local := by rfl)
    (hw : swappedStores [.Tuple [.Name x px, .Name y py] kt pt] (.Tuple [a, b] k2 pt2) X.env = pure (some [x, y]) := by rfl)
    (hs : swapsWithSole [.Tuple [.Name x px, .Name y py] kt pt] (.Tuple [a, b] k2 pt2) pos.line X.env = pure false := by rfl) :
    PSQ X T (.Assign [.Tuple [.Name x px, .Name y py] kt pt] (.Tuple [a, b] k2 pt2) pos) (qPar i j ta) := ⟨(ps_par hc hN hi hj hij hx hy ha.pa hw hs).wk fun D σ H h => by
  obtain ⟨F, A, s, hs, hR, D2, ht, k⟩ := h
  refine ⟨F, A, s, hs, hR, _, ht, fun ds A' vs H' F' p g r => ?_⟩
  cases r with
  | nil => exact p.elim
  | cons r1 rr =>
    cases rr with
    | nil => exact p.elim
    | cons r2 rr =>
      cases rr with
      | nil => exact ⟨_, _, rfl, k.nx _ _ _ _ _ p g (((hs.mono g.ext).set r1 i).set r2 j)⟩
      | cons _ _ => exact p.elim⟩

/-! ### what is walked -/
/-- J yields the data ds while F0 stands -/
structure Src (K : PySem.W.Frag) (T : Tz) (J : It) (F0 : Hp) (ds : List D) : Prop where
  go : ∀ i F A H, i < ds.length → RS K T F A H → Same F0 F → J.go i H
  stop : ∀ i F A H, ds.length ≤ i → RS K T F A H → Same F0 F → J.stop i H
  yld : ∀ i F A H x H', i < ds.length → J.yld i H x H' → RS K T F A H → Same F0 F → ∃ d F', ds[i]? = some d ∧ Go K T F A H F' A H' ∧ Rep K F' x d
theorem Src.mono {K : PySem.W.Frag} {J : It} {F0 F1 : Hp} {ds : List D} (S : Src K T J F0 ds) (e : Same F0 F1) : Src K T J F1 ds :=
  ⟨fun i F A H h R e2 => S.go i F A H h R (e.trans e2), fun i F A H h R e2 => S.stop i F A H h R (e.trans e2), fun i F A H x H' hl h R e2 => S.yld i F A H x H' hl h R (e.trans e2)⟩
def liftI (K : PySem.W.Frag) (T : Tz) (wi : TAQ) : TI := fun σ H R => ∃ F A s, Rs K F s σ ∧ RS K T F A H ∧ ∃ P : List D → MH → Prop, wi s A P ∧ ∀ ds A' H' F' J, P ds A' → Go K T F A H F' A' H' → Src K T J F' ds → R J H'
structure PIQ (X : Cx) (T : Tz) (tg iter : Expr) (wi : TAQ) : Prop where
  pi : PI X tg iter (liftI X.K T wi)

/-! ### for -/
def runL (t : Tgt) (tb : TSQ) (E : EndsQ) : List D → SQ → MH → Prop
  | [], s, A => E.nx s A
  | x :: xs, s, A => match tset t x s with
    | some s' => tb { E with nx := runL t tb E xs, ct := runL t tb E xs, bk := E.nx } s' A
    | none => False
def qFor (wi : TAQ) (t : Tgt) (tb : TSQ) : TSQ := fun E s A => wi s A fun ds A1 => runL t tb E ds s A1
theorem psq_for {tg iter : Expr} {body : List Stmt} {wi : TAQ} {t : Tgt} {tb : TSQ} (hp : PassesOwn (model X.prog X.w) X.A X.env X.xe) (hc : X.calm = true) (hi : PIQ X T tg iter wi) (hg : PGQ X tg t) (hb : PSsQ X T body tb)
    (hs : ∀ x, foldedSetIterable iter X.env x = pure x := by intro _; rfl) : PSQ X T (.For tg iter body [] pos) (qFor wi t tb) := ⟨(ps_for hp hc hi.pi hg.pg hb.ps hs).wk fun E σ H h => by
  obtain ⟨F, A, s, hs, hR, D2, ht, k⟩ := h
  refine ⟨F, A, s, hs, hR, _, ht, fun ds A1 H1 F1 J p g1 S => ?_⟩
  refine ⟨fun i m σ H' => ∃ F' A s, Go X.K T F1 A1 H1 F' A H' ∧ Rs X.K F' s σ ∧ m = ds.length - i ∧ i ≤ ds.length ∧ runL t tb D2 (ds.drop i) s A, ⟨_, F1, A1, s, g1.rs.go, hs.mono g1.ext, rfl, Nat.zero_le _, p⟩, ?_⟩
  rintro i m σ H ⟨F, A, s, g2, hs2, rfl, hi, q⟩
  by_cases hl : i < ds.length
  · refine .inr ⟨S.go i F A H hl g2.rs g2.ext, fun σ H' => ∃ F' A s, Go X.K T F1 A1 H1 F' A H' ∧ Rs X.K F' s σ ∧ runL t tb D2 (ds.drop (i + 1)) s A, fun σ' H' ⟨F', A', s', h1, h2, h4⟩ => ⟨ds.length - (i + 1), by omega, F', A', s', h1, h2, rfl, hl, h4⟩, fun x H' hy => ?_⟩
    obtain ⟨d, F3, hd, g3, r3⟩ := S.yld i F A H x H' hl hy g2.rs g2.ext
    have hd' : ds[i] = d := by rw [List.getElem?_eq_getElem hl] at hd; exact Option.some.inj hd
    rw [List.drop_eq_getElem_cons hl, hd'] at q
    have q' : (match tset t d s with | some s' => tb { D2 with nx := runL t tb D2 (ds.drop (i + 1)), ct := runL t tb D2 (ds.drop (i + 1)), bk := D2.nx } s' A | none => False) := q
    cases hq : tset t d s with
    | none => rw [hq] at q'; exact q'.elim
    | some s' =>
      rw [hq] at q'
      have g4 := g2.trans g3
      refine tg_ok g3.rs t (hs2.mono g3.ext) r3 hq fun σ' h1 _ => ⟨F3, A, s', h1, g3.rs, _, q', ?_⟩
      have fn : ∀ s' A' σ' H' F', runL t tb D2 (ds.drop (i + 1)) s' A' → Go X.K T F3 A _ F' A' H' → Rs X.K F' s' σ' → ∃ F' A s, Go X.K T F1 A1 H1 F' A H' ∧ Rs X.K F' s σ' ∧ runL t tb D2 (ds.drop (i + 1)) s A := fun s' A' σ' H' F' p g hs' => ⟨F', A', s', g4.trans g, hs', p⟩
      exact ⟨fn, fun d A' v H' F' p g r => k.rt _ _ _ _ _ p ((g1.trans g4).trans g) r, fun s' A' σ' H' F' p g hs' => k.nx _ _ _ _ _ p ((g1.trans g4).trans g) hs', fn⟩
  · have e : i = ds.length := by omega
    refine .inl ⟨S.stop i F A H (by omega) g2.rs g2.ext, ?_⟩
    rw [List.drop_eq_nil_of_le (by omega)] at q
    exact k.nx _ _ _ _ _ (show D2.nx s A from q) (g1.trans g2) hs2⟩

/-! ### while -/
def qWhile (c : TTQ) (tb : TSQ) : TSQ := fun E s A => ∃ W : Nat → SQ → MH → Prop, (∃ m, W m s A) ∧ ∀ m s A, W m s A →
  c s A fun b A1 => if b = true then tb { E with nx := fun s' A' => ∃ m', m' < m ∧ W m' s' A', ct := fun s' A' => ∃ m', m' < m ∧ W m' s' A', bk := E.nx } s A1 else E.nx s A1
theorem psq_while {c : Expr} {body : List Stmt} {tc : TTQ} {tb : TSQ} (hp : PassesOwn (model X.prog X.w) X.A X.env X.xe) (hc : PTQ X T c tc) (hb : PSsQ X T body tb) : PSQ X T (.While c body [] pos) (qWhile tc tb) := ⟨(ps_while hp hc.pt hb.ps).wk fun E σ H h => by
  obtain ⟨F, A, s, hs, hR, D2, ⟨W, ⟨m0, w0⟩, turn⟩, k⟩ := h
  refine ⟨fun m σ H' => ∃ F' A' s, Go X.K T F A H F' A' H' ∧ Rs X.K F' s σ ∧ W m s A', ⟨m0, F, A, s, hR.go, hs, w0⟩, ?_⟩
  rintro m σ H1 ⟨F1, A1, s1, g1, hs1, w1⟩
  refine ⟨F1, A1, s1, hs1, g1.rs, _, turn m s1 A1 w1, fun b A2 H2 F2 p g2 => ?_⟩
  cases b with
  | true =>
    rw [if_pos rfl]
    rw [if_pos rfl] at p
    refine ⟨fun σ H' => ∃ m', m' < m ∧ ∃ F' A' s, Go X.K T F A H F' A' H' ∧ Rs X.K F' s σ ∧ W m' s A', fun σ' H' ⟨m', hm, z⟩ => ⟨m', hm, z⟩, F2, A2, s1, hs1.mono g2.ext, g2.rs, _, p, ?_⟩
    have fn : ∀ s' A' σ' H' F', (∃ m', m' < m ∧ W m' s' A') → Go X.K T F2 A2 H2 F' A' H' → Rs X.K F' s' σ' → ∃ m', m' < m ∧ ∃ F' A' s, Go X.K T F A H F' A' H' ∧ Rs X.K F' s σ' ∧ W m' s A' := fun s' A' σ' H' F' ⟨m', hm, w'⟩ g hs' => ⟨m', hm, F', A', s', (g1.trans g2).trans g, hs', w'⟩
    exact ⟨fn, fun d A' v H' F' p g r => k.rt _ _ _ _ _ p ((g1.trans g2).trans g) r, fun s' A' σ' H' F' p g hs' => k.nx _ _ _ _ _ p ((g1.trans g2).trans g) hs', fn⟩
  | false =>
    rw [if_neg Bool.false_ne_true]
    rw [if_neg Bool.false_ne_true] at p
    exact k.nx _ _ _ _ _ p (g1.trans g2) (hs1.mono g2.ext)⟩

/-! ### list comprehensions -/
def wipeQ (s : SQ) : List Nat → SQ
  | [] => s
  | v :: vs => (wipeQ s vs).set v none
theorem Rs.wipe {K : PySem.W.Frag} {F : Hp} {s : SQ} {σ : St} (h : Rs K F s σ) : ∀ vs : List Nat, Rs K F (wipeQ s vs) (L2.wipe σ vs)
  | [] => h
  | v :: vs => (Rs.wipe h vs).forget v none
structure PTsQ (X : Cx) (T : Tz) (ifs : List Expr) (t : TTQ) : Prop where
  pt : PTs X ifs (liftT X.K T t)
def qYes : TTQ := fun _ A P => P true A
theorem qts_nil : PTsQ X T [] qYes := ⟨⟨fun pins s σ H Q I h => pts_nil.run pins s σ H Q I (by
  obtain ⟨F, A, s, hs, hR, P, ht, k⟩ := h
  exact k _ _ _ _ ht hR.go)⟩⟩
theorem qts_one {c : Expr} {t : TTQ} (h : PTQ X T c t) : PTsQ X T [c] t := ⟨pts_one h.pt⟩
/-- the block's turns: acc is made so far -/
def compL (t : Tgt) (tt : TTQ) (te : TQ) (s : SQ) : List D → List D → MH → (List D → MH → Prop) → Prop
  | [], acc, A, P => P acc A
  | x :: xs, acc, A, P => match tset t x s with
    | some s' => tt s' A fun b A1 => if b = true then te s' A1 fun y A2 => acc.length < 100000 ∧ compL t tt te s xs (acc ++ [y]) A2 P else compL t tt te s xs acc A1 P
    | none => False
def qLc (m : Bool) (wi : TAQ) (t : Tgt) (tt : TTQ) (te : TQ) (vs : List Nat) : TQ := fun s A P => wi s A fun ds A1 => compL t tt te (wipeQ s vs) ds [] A1 fun out A2 => newL m out A2 P
theorem newL_at {K : PySem.W.Frag} {m : Bool} {ds : List D} {P : KQ} {F F1 H H1 : Hp} {A A1 : MH} {vs : List V} {p : Addr} {Q : VK} (G : Go K T F A H F1 A1 H1) (h : newL m ds A1 P) (r : Reps K F1 vs ds) (hn : H p = none) (hF : F1 p = none) (hA : A1 p = none) (hp : H1 p = some (.lst vs))
    (k : ∀ d A' v H' F', P d A' → Go K T F A H F' A' H' → Rep K F' v d → Q v H') : Q (.ref p) H1 := by
  unfold newL at h
  cases m with
  | true =>
    rw [if_pos rfl] at h
    exact k _ _ _ _ _ (h p hA) (G.own hn hF ⟨vs, hp, r⟩) (.mut p)
  | false =>
    rw [if_neg Bool.false_ne_true] at h
    obtain ⟨g, e⟩ := G.froze hn hF hA hp trivial
    exact k _ _ _ _ _ h g (.lst upd_same (r.mono e))
/-- the reading of a list comprehension in the layer below, from that over data -/
theorem lift_lc {K : PySem.W.Frag} {m : Bool} {wi : TAQ} {t : Tgt} {tt : TTQ} {te : TQ} {vs : List Nat} (hv : ∀ j ∈ tix t, j ∈ vs) {σ : St} {H : Hp} {Q : VK} (h : lift K T (qLc m wi t tt te vs) σ H Q) : tLc (liftI K T wi) (tgG K t) (liftT K T tt) (lift K T te) vs σ H Q := by
  obtain ⟨F, A, s, hs, hR, P, ht, k⟩ := h
  refine ⟨F, A, s, hs, hR, _, ht, fun ds A1 H1 F1 J p g1 S => fun D hD => ?_⟩
  have nF1 : F1 D = none := (g1.rs.free hD).1
  have nA1 : A1 D = none := (g1.rs.free hD).2
  refine ⟨fun i m0 H' => ∃ F' A' acc vs0, Go K T F1 A1 H1 F' A' H' ∧ F' D = none ∧ A' D = none ∧ H' D = some (.lst vs0) ∧ Reps K F' vs0 acc ∧ m0 = ds.length - i ∧ i ≤ ds.length ∧ compL t tt te (wipeQ s vs) (ds.drop i) acc A' fun out A2 => newL m out A2 P,
    ⟨_, F1, A1, [], [], g1.rs.go.beside hD, nF1, nA1, upd_same, .nil, rfl, Nat.zero_le _, p⟩, ?_⟩
  rintro i m0 H2 ⟨F2, A2, acc, vs0, g2, n1, n2, hD2, rr, rfl, hi, q⟩
  by_cases hl : i < ds.length
  · refine .inr ⟨S.go i F2 A2 H2 hl g2.rs g2.ext, fun H' => ∃ F' A' acc vs0, Go K T F1 A1 H1 F' A' H' ∧ F' D = none ∧ A' D = none ∧ H' D = some (.lst vs0) ∧ Reps K F' vs0 acc ∧ compL t tt te (wipeQ s vs) (ds.drop (i + 1)) acc A' fun out A2 => newL m out A2 P,
      fun H' ⟨F', A', acc, vs0, h1, h2, h3, h4, h5, h6⟩ => ⟨ds.length - (i + 1), by omega, F', A', acc, vs0, h1, h2, h3, h4, h5, rfl, hl, h6⟩, fun x H3 hy => ?_⟩
    obtain ⟨d, F3, hd, g3, r3⟩ := S.yld i F2 A2 H2 x H3 hl hy g2.rs g2.ext
    obtain ⟨a1, a2, a3⟩ := g3.kp D _ hD2 n2 trivial
    have hd' : ds[i] = d := by rw [List.getElem?_eq_getElem hl] at hd; exact Option.some.inj hd
    rw [List.drop_eq_getElem_cons hl, hd'] at q
    have hsw : Rs K F3 (wipeQ s vs) (L2.wipe σ vs) := ((hs.mono g1.ext).mono (g2.trans g3).ext).wipe vs
    cases hq : tset t d (wipeQ s vs) with
    | none =>
      have q' : (match tset t d (wipeQ s vs) with | some s' => _ | none => False) := q
      rw [hq] at q'; exact q'.elim
    | some s' =>
      have q' : (match tset t d (wipeQ s vs) with | some s' => tt s' A2 fun b A1 => if b = true then te s' A1 fun y A2 => acc.length < 100000 ∧ compL t tt te (wipeQ s vs) (ds.drop (i + 1)) (acc ++ [y]) A2 (fun out A2 => newL m out A2 P) else compL t tt te (wipeQ s vs) (ds.drop (i + 1)) acc A1 (fun out A2 => newL m out A2 P) | none => False) := q
      rw [hq] at q'
      refine tg_ok g3.rs t hsw r3 hq fun σ' h1 h2 => ⟨?_, ?_⟩
      · rw [h2.wipe hv, wipe_wipe]
      · refine ⟨F3, A2, s', h1, g3.rs, _, q', fun b A4 H4 F4 p4 g4 => ?_⟩
        obtain ⟨b1, b2, b3⟩ := g4.kp D _ a1 a2 trivial
        cases b with
        | true =>
          rw [if_pos rfl]
          rw [if_pos rfl] at p4
          refine ⟨F4, A4, s', h1.mono g4.ext, g4.rs, _, p4, fun y A5 v H5 F5 p5 g5 r5 => ?_⟩
          obtain ⟨c1, c2, c3⟩ := g5.kp D _ b1 b2 trivial
          have g6 := ((g2.trans g3).trans g4).trans g5
          have e6 := ((g3.trans g4).trans g5).ext
          refine ⟨vs0, c1, ?_, F5, A5, acc ++ [y], vs0 ++ [v], g6.aside hD (c3 trivial (b3 trivial (a3 trivial n1))) c2 c1 trivial, c3 trivial (b3 trivial (a3 trivial n1)), c2, upd_same, (rr.mono e6).append (.cons r5 .nil), p5.2⟩
          rw [rr.length]
          exact Evl.sz_lt p5.1
        | false =>
          rw [if_neg Bool.false_ne_true]
          rw [if_neg Bool.false_ne_true] at p4
          exact ⟨F4, A4, acc, vs0, (g2.trans g3).trans g4, b3 trivial (a3 trivial n1), b2, b1, rr.mono (g3.trans g4).ext, p4⟩
  · refine .inl ⟨S.stop i F2 A2 H2 (by omega) g2.rs g2.ext, ?_⟩
    rw [List.drop_eq_nil_of_le (by omega)] at q
    exact newL_at g2 q rr hD n1 n2 hD2 fun d A' v H' F' p g r => k _ _ _ _ _ p (g1.trans g) r
theorem pq_lc (m : Bool) {elt tg iter : Expr} {ifs : List Expr} {scope : Scope} {own : List (Str × Nat)} {wi : TAQ} {t : Tgt} {tt : TTQ} {te : TQ} (hc : X.calm = true) (hN : X.N.Nodup) (hi : PIQ X T tg iter wi) (ok : BlkOk X.N X.env.scope scope own)
    (hg : ∀ (s : Shared) (H : Hp) (C : Addr) (cl : List (Str × Addr)) (fp : List Addr), PGQ (X.blk s H scope (compEnvC scope cl C X.env) fp) tg t) (ht : ∀ (s : Shared) (H : Hp) (C : Addr) (cl : List (Str × Addr)) (fp : List Addr), PTsQ (X.blk s H scope (compEnvC scope cl C X.env) fp) T ifs tt)
    (he : ∀ (s : Shared) (H : Hp) (C : Addr) (cl : List (Str × Addr)) (fp : List Addr), PQ (X.blk s H scope (compEnvC scope cl C X.env) fp) T elt te) (hv : ∀ j ∈ tix t, j ∈ own.map (·.2) := by decide) (hs : ∀ x, foldedSetIterable iter X.env x = pure x := by intro _; rfl) :
    PQ X T (.ListComp elt [⟨tg, iter, ifs, 0⟩] scope pos) (qLc m wi t tt te (own.map (·.2))) :=
  ⟨(pe_lc hc hN hi.pi ok (fun s H C cl fp => (hg s H C cl fp).pg) (fun s H C cl fp => (ht s H C cl fp).pt) (fun s H C cl fp => (he s H C cl fp).pe) hs).wk fun _ _ _ h => lift_lc hv h⟩
theorem psq_setLc (m : Bool) {i : Nat} {y : Str} {py spos : Pos} {elt tg iter : Expr} {ifs : List Expr} {scope : Scope} {own : List (Str × Nat)} {wi : TAQ} {t : Tgt} {tt : TTQ} {te : TQ} (hc : X.calm = true) (hN : X.N.Nodup) (hi : PIQ X T tg iter wi) (ok : BlkOk X.N X.env.scope scope own)
    (hg : ∀ (s : Shared) (H : Hp) (C : Addr) (cl : List (Str × Addr)) (fp : List Addr), PGQ (X.blk s H scope (compEnvC scope cl C X.env) fp) tg t) (ht : ∀ (s : Shared) (H : Hp) (C : Addr) (cl : List (Str × Addr)) (fp : List Addr), PTsQ (X.blk s H scope (compEnvC scope cl C X.env) fp) T ifs tt)
    (he : ∀ (s : Shared) (H : Hp) (C : Addr) (cl : List (Str × Addr)) (fp : List Addr), PQ (X.blk s H scope (compEnvC scope cl C X.env) fp) T elt te)
    (hsw : swapsWith (.ListComp elt [⟨tg, iter, ifs, 0⟩] scope pos) (some (.Name y py)) spos.line X.env = pure true) (hy : X.N[i]? = some y := by rfl) (hyl : X.env.scope.names.lookup y = some .local := by rfl)
    (hv : ∀ j ∈ tix t, j ∈ own.map (·.2) := by decide) (hs : ∀ x, foldedSetIterable iter X.env x = pure x := by intro _; rfl) :
    PSQ X T (.Assign [.Name y py] (.ListComp elt [⟨tg, iter, ifs, 0⟩] scope pos) spos) (qAsg (qLc m wi t tt te (own.map (·.2))) (.nm i)) :=
  ⟨(ps_setLc hc hN hy hyl hsw hi.pi ok (fun s H C cl fp => (hg s H C cl fp).pg) (fun s H C cl fp => (ht s H C cl fp).pt) (fun s H C cl fp => (he s H C cl fp).pe) hs).wk fun E σ H h => by
  have h' := lift_asg h
  have e : tgG X.K (.nm i) = gName i := by simp [tgG]
  rw [e] at h'
  exact lift_lc hv (Q := fun v H1 => gName i v σ H1 E.nx) h'⟩
end
end Qd


set_option Elab.async false
set_option linter.all false
set_option maxRecDepth 100000
set_option maxHeartbeats 4000000
/-! Second layer, part C: operators, comparisons, built-ins, subscripts over data. -/
namespace Qd
open PySem L2

def okQ {α : Type} (o : Option α) (P : α → Prop) : Prop := match o with | some z => P z | none => False
theorem okQ_some {α : Type} {z : α} {P : α → Prop} : okQ (some z) P = P z := rfl
theorem okQ_none {α : Type} {P : α → Prop} : okQ (none : Option α) P = False := rfl

section
variable {K : PySem.W.Frag} {T : Tz}
/-! ### inversions -/
theorem Rep.int_inv {F : Hp} {v : V} {i : Int} (h : Rep K F v (.int i)) : v = .int i := by cases h; rfl
theorem Rep.str_inv {F : Hp} {v : V} {i : Str} (h : Rep K F v (.str i)) : v = .str i := by cases h; rfl
theorem Rep.bl_inv {F : Hp} {v : V} {i : Bool} (h : Rep K F v (.bl i)) : v = .bl i := by cases h; rfl
theorem Rep.non_inv {F : Hp} {v : V} (h : Rep K F v .non) : v = .non := by cases h; rfl
theorem Rep.ty_inv {F : Hp} {v : V} {n : String} (h : Rep K F v (.ty n)) : v = .ty n := by cases h; rfl
theorem Rep.mut_inv {F : Hp} {v : V} {a : Addr} (h : Rep K F v (.mut a)) : v = .ref a := by cases h; rfl

/-! ### ints -/
def qI (g : Int → Int → D) : R2Q := fun x y A P => match x, y with | .int i, .int j => P (g i j) A | _, _ => False
def qIC (C : Int → Int → Prop) (g : Int → Int → D) : R2Q := fun x y A P => match x, y with | .int i, .int j => C i j ∧ P (g i j) A | _, _ => False
theorem rel_I {gv : Int → Int → V} {g : Int → Int → D} (hg : ∀ F i j, Rep K F (gv i j) (g i j)) : Rel2 K T (rI0 gv) (qI g) := by
  intro F A H x y xv yv P Q R rx ry h k
  unfold qI at h
  split at h
  · rw [rx.int_inv, ry.int_inv]
    exact ⟨_, _, rfl, rfl, k _ _ _ _ _ h R.go (hg _ _ _)⟩
  · exact h.elim
theorem rel_IC {C : Int → Int → Prop} {gv : Int → Int → V} {g : Int → Int → D} (hg : ∀ F i j, Rep K F (gv i j) (g i j)) : Rel2 K T (rI C gv) (qIC C g) := by
  intro F A H x y xv yv P Q R rx ry h k
  unfold qIC at h
  split at h
  · rw [rx.int_inv, ry.int_inv]
    exact ⟨_, _, rfl, rfl, h.1, k _ _ _ _ _ h.2 R.go (hg _ _ _)⟩
  · exact h.elim
/-- two rules for one operation: the first that fits -/
def qOr2 (r r' : R2Q) : R2Q := fun x y A P => r x y A P ∨ r' x y A P
theorem rel_or {R R' : R2} {r r' : R2Q} (h : Rel2 K T R r) (h' : Rel2 K T R' r') : Rel2 K T (fun x y H Q => R x y H Q ∨ R' x y H Q) (qOr2 r r') := by
  intro F A H x y xv yv P Q RR rx ry hh k
  rcases hh with hh | hh
  · exact .inl (h RR rx ry hh k)
  · exact .inr (h' RR rx ry hh k)
end
section
variable {X : Cx} {T : Tz} {a b c e : Expr} {ta tb tc te : TQ} {pos : Pos}
abbrev qAddI : R2Q := qI fun i j => .int (i + j)
abbrev qSubI : R2Q := qI fun i j => .int (i - j)
abbrev qMulI : R2Q := qIC CMul fun i j => .int (i * j)
/-- any two ints -/
def CModP (_ j : Int) : Prop := 0 < j
abbrev qModI : R2Q := qIC CModP fun i j => .int (i % j)
abbrev qDivI : R2Q := qIC CDiv fun i j => .int (i / j)
def CPowW (i j : Int) : Prop := 0 ≤ j ∧ (Builtin.Int.intBits i : Int) * j ≤ 2 ^ 27
abbrev qPowI : R2Q := qIC CPowW fun i j => .int (i ^ j.toNat)
theorem op_powW : OpR X (binaryOp .Pow) (rI CPowW fun i j => .int (i ^ j.toNat)) := opI fun _ _ _ _ _ _ _ hc q => PyProof.Rows.pow_int hc.1 hc.2 q
theorem pq_addI (ha : PQ X T a ta) (hb : PQ X T b tb) : PQ X T (.BinOp a .Add b pos) (qOp qAddI ta tb) := pq_op (rel_I fun _ _ _ => .int _) op_add ha hb
theorem pq_subI (ha : PQ X T a ta) (hb : PQ X T b tb) : PQ X T (.BinOp a .Sub b pos) (qOp qSubI ta tb) := pq_op (rel_I fun _ _ _ => .int _) op_sub ha hb
theorem pq_mulI (ha : PQ X T a ta) (hb : PQ X T b tb) : PQ X T (.BinOp a .Mult b pos) (qOp qMulI ta tb) := pq_op (rel_IC fun _ _ _ => .int _) op_mul ha hb
theorem pq_modI (ha : PQ X T a ta) (hb : PQ X T b tb) : PQ X T (.BinOp a .Mod b pos) (qOp qModI ta tb) := pq_op (rel_IC fun _ _ _ => .int _) op_mod ha hb
theorem pq_divI (ha : PQ X T a ta) (hb : PQ X T b tb) : PQ X T (.BinOp a .FloorDiv b pos) (qOp qDivI ta tb) := pq_op (rel_IC fun _ _ _ => .int _) op_fdiv ha hb
theorem pq_powI (ha : PQ X T a ta) (hb : PQ X T b tb) : PQ X T (.BinOp a .Pow b pos) (qOp qPowI ta tb) := pq_op (rel_IC fun _ _ _ => .int _) op_powW ha hb
def qNegI : R1Q := fun x A P => match x with | .int i => P (.int (-i)) A | _ => False
theorem pq_neg (ha : PQ X T a ta) : PQ X T (.UnaryOp .USub a pos) (qUn qNegI ta) := pq_un (R := rU fun i => .int (-i)) (by
  intro F A H x xv P Q R rx h k
  unfold qNegI at h
  split at h
  · rw [rx.int_inv]
    exact ⟨_, rfl, k _ _ _ _ _ h R.go (.int _)⟩
  · exact h.elim) un_neg ha

/-! ### + of texts, lists -/
def qAddS : R2Q := fun x y A P => match x, y with | .str i, .str j => i.length + j.length ≤ 100000 ∧ P (.str (i ++ j)) A | _, _ => False
def qAddL (m : Bool) : R2Q := fun x y A P => match x, y with | .lst xs, .lst ys => xs.length + ys.length ≤ 100000 ∧ newL m (xs ++ ys) A P | _, _ => False
theorem pq_addS (ha : PQ X T a ta) (hb : PQ X T b tb) : PQ X T (.BinOp a .Add b pos) (qOp qAddS ta tb) := pq_op (by
  intro F A H x y xv yv P Q R rx ry h k
  unfold qAddS at h
  split at h
  · rw [rx.str_inv, ry.str_inv]
    exact ⟨_, _, rfl, rfl, Evl.sz_of h.1, k _ _ _ _ _ h.2 R.go (.str _)⟩
  · exact h.elim) op_add_str ha hb
theorem pq_addL (m : Bool) (ha : PQ X T a ta) (hb : PQ X T b tb) : PQ X T (.BinOp a .Add b pos) (qOp (qAddL m) ta tb) := pq_op (by
  intro F A H x y xv yv P Q R rx ry h k
  unfold qAddL at h
  split at h
  · cases rx with
    | lst hx rx =>
      cases ry with
      | lst hy ry =>
        exact ⟨_, _, _, _, rfl, rfl, R.sub _ _ hx, R.sub _ _ hy, by rw [rx.length, ry.length]; exact Evl.sz_of h.1, fun p hp => newL_ok R h.2 (rx.append ry) hp k⟩
  · exact h.elim) op_cat ha hb
def repL (n : Nat) (xs : List D) : List D := (List.replicate n xs).flatten
theorem Reps.flat {K : PySem.W.Frag} {F : Hp} {vs : List V} {ds : List D} (r : Reps K F vs ds) : ∀ n : Nat, Reps K F (List.replicate n vs).flatten (List.replicate n ds).flatten
  | 0 => .nil
  | n + 1 => by
    rw [List.replicate_succ, List.replicate_succ, List.flatten_cons, List.flatten_cons]
    exact r.append (Reps.flat r n)
/-- xs * n -/
def qMulL (m : Bool) : R2Q := fun x y A P => match x, y with | .lst xs, .int n => 0 ≤ n ∧ n ≤ 100000 ∧ xs.length * n.toNat ≤ 100000 ∧ newL m (repL n.toNat xs) A P | _, _ => False
theorem pq_mulL (m : Bool) (ha : PQ X T a ta) (hb : PQ X T b tb) : PQ X T (.BinOp a .Mult b pos) (qOp (qMulL m) ta tb) := pq_op (by
  intro F A H x y xv yv P Q R rx ry h k
  unfold qMulL at h
  split at h
  · obtain ⟨h1, h2, h3, h4⟩ := h
    rw [ry.int_inv]
    cases rx with
    | lst hx rx =>
      exact ⟨_, _, _, rfl, rfl, R.sub _ _ hx, by omega, by omega, by rw [rx.length]; exact Evl.sz_of h3, fun p hp => newL_ok R h4 (rx.flat _) hp k⟩
  · exact h.elim) op_rep ha hb

/-! ### == -/
mutual
def toPy : D → Option PyData
  | .non => some .none
  | .bl b => some (.bool b)
  | .int i => some (.int i)
  | .str x => some (.str x)
  | .tup xs => (toPys xs).map .tuple
  | .lst xs => (toPys xs).map .list
  | _ => none
def toPys : List D → Option (List PyData)
  | [] => some []
  | x :: xs => match toPy x, toPys xs with | some d, some ds => some (d :: ds) | _, _ => none
end
mutual
theorem toPy_dp {K : PySem.W.Frag} {F H : Hp} (e : Same F H) : ∀ {v : V} {d : D} {p : PyData}, Rep K F v d → toPy d = some p → Dp K H v p
  | _, _, _, .non, h => by simp only [toPy, Option.some.injEq] at h; subst h; exact .non
  | _, _, _, .bl b, h => by simp only [toPy, Option.some.injEq] at h; subst h; exact .bl b
  | _, _, _, .int b, h => by simp only [toPy, Option.some.injEq] at h; subst h; exact .int b
  | _, _, _, .str b, h => by simp only [toPy, Option.some.injEq] at h; subst h; exact .str b
  | _, _, _, .ty b, h => by simp [toPy] at h
  | _, _, _, .tup hs r, h => by
    simp only [toPy, Option.map_eq_some_iff] at h
    obtain ⟨ps, h1, rfl⟩ := h
    exact .tup (sqT_mono e hs) (toPys_dp e r h1)
  | _, _, _, .lst hs r, h => by
    simp only [toPy, Option.map_eq_some_iff] at h
    obtain ⟨ps, h1, rfl⟩ := h
    exact .lst (.of (e _ _ hs)) (toPys_dp e r h1)
  | _, _, _, .dic _ _, h => by simp [toPy] at h
  | _, _, _, .gdc _ _, h => by simp [toPy] at h
  | _, _, _, .mut _, h => by simp [toPy] at h
  | _, _, _, .fn _, h => by simp [toPy] at h
  | _, _, _, .lam _ _, h => by simp [toPy] at h
  | _, _, _, .frl _ _, h => by simp [toPy] at h
theorem toPys_dp {K : PySem.W.Frag} {F H : Hp} (e : Same F H) : ∀ {vs : List V} {ds : List D} {ps : List PyData}, Reps K F vs ds → toPys ds = some ps → DpAll K H vs ps
  | _, _, _, .nil, h => by simp only [toPys, Option.some.injEq] at h; subst h; exact .nil
  | _, _, _, @Reps.cons _ _ v d vs ds r rr, h => by
    simp only [toPys] at h
    cases h1 : toPy d with
    | none => rw [h1] at h; simp at h
    | some p =>
      cases h2 : toPys ds with
      | none => rw [h1, h2] at h; simp at h
      | some ps =>
        rw [h1, h2] at h
        simp only [Option.some.injEq] at h
        subst h
        exact .cons (toPy_dp e r h1) (toPys_dp e rr h2)
end
/-- plain scalars -/
def sV : D → Option V
  | .non => some .non
  | .bl b => some (.bl b)
  | .int i => some (.int i)
  | .str x => some (.str x)
  | _ => none
theorem sV_rep {K : PySem.W.Frag} {F : Hp} {v w : V} {d : D} (r : Rep K F v d) (h : sV d = some w) : v = w := by
  cases r <;> simp only [sV, Option.some.injEq, reduceCtorEq] at h <;> exact h
def eqS (x y : D) : Option Bool := match sV x, sV y with | some a, some b => if scal a b = true then some (decide (a = b)) else none | _, _ => none
def eqP (x y : D) : Option Bool := match toPy x, toPy y with | some a, some b => if SeqAt.shaped a = true ∧ SeqAt.shaped b = true then some (PyData.eqv a b) else none | _, _ => none
/-- == of plain data -/
def eqD (x y : D) : Option Bool := match eqS x y with | some b => some b | none => eqP x y
def qEq : R2Q := fun x y A P => okQ (eqD x y) fun b => P (.bl b) A
def qNe : R2Q := fun x y A P => okQ (eqD x y) fun b => P (.bl (!b)) A
theorem eqS_rep {K : PySem.W.Frag} {F : Hp} {v w : V} {x y : D} {b : Bool} (rx : Rep K F v x) (ry : Rep K F w y) (h : eqS x y = some b) : scal v w = true ∧ decide (v = w) = b := by
  unfold eqS at h
  cases h1 : sV x with
  | none => rw [h1] at h; simp at h
  | some a =>
    cases h2 : sV y with
    | none => rw [h1, h2] at h; simp at h
    | some c =>
      rw [h1, h2] at h
      have e1 := sV_rep rx h1
      have e2 := sV_rep ry h2
      subst e1 e2
      by_cases hs : scal v w = true
      · simp only [hs, if_true, Option.some.injEq] at h
        exact ⟨hs, h⟩
      · simp only [hs] at h; simp at h
theorem eqP_rep {K : PySem.W.Frag} {F H : Hp} {v w : V} {x y : D} {b : Bool} (e : Same F H) (rx : Rep K F v x) (ry : Rep K F w y) (h : eqP x y = some b) : ∃ d d2, Dp K H v d ∧ Dp K H w d2 ∧ SeqAt.shaped d = true ∧ SeqAt.shaped d2 = true ∧ PyData.eqv d d2 = b := by
  unfold eqP at h
  cases h1 : toPy x with
  | none => rw [h1] at h; simp at h
  | some a =>
    cases h2 : toPy y with
    | none => rw [h1, h2] at h; simp at h
    | some c =>
      rw [h1, h2] at h
      by_cases hs : SeqAt.shaped a = true ∧ SeqAt.shaped c = true
      · simp only [hs, and_self, if_true, Option.some.injEq] at h
        exact ⟨a, c, toPy_dp e rx h1, toPy_dp e ry h2, hs.1, hs.2, h⟩
      · simp only [hs, if_false, reduceCtorEq] at h
theorem rel_eq {K : PySem.W.Frag} : Rel2 K T (fun x y H Q => rEq x y H Q ∨ rEqD K x y H Q) qEq := by
  intro F A H x y xv yv P Q R rx ry h k
  unfold qEq eqD at h
  cases h1 : eqS x y with
  | some b =>
    rw [h1] at h
    obtain ⟨hs, hb⟩ := eqS_rep rx ry h1
    exact .inl ⟨hs, by rw [hb]; exact k _ _ _ _ _ h R.go (.bl _)⟩
  | none =>
    rw [h1] at h
    cases h2 : eqP x y with
    | none => simp only [h2] at h; exact h.elim
    | some b =>
      simp only [h2] at h
      obtain ⟨d, d2, q1, q2, q3, q4, q5⟩ := eqP_rep R.sub rx ry h2
      exact .inr ⟨d, d2, q1, q2, q3, q4, by rw [q5]; exact k _ _ _ _ _ h R.go (.bl _)⟩
theorem rel_ne {K : PySem.W.Frag} : Rel2 K T (fun x y H Q => rNe x y H Q ∨ rNeD K x y H Q) qNe := by
  intro F A H x y xv yv P Q R rx ry h k
  unfold qNe eqD at h
  cases h1 : eqS x y with
  | some b =>
    rw [h1] at h
    obtain ⟨hs, hb⟩ := eqS_rep rx ry h1
    exact .inl ⟨hs, by rw [hb]; exact k _ _ _ _ _ h R.go (.bl _)⟩
  | none =>
    rw [h1] at h
    cases h2 : eqP x y with
    | none => simp only [h2] at h; exact h.elim
    | some b =>
      simp only [h2] at h
      obtain ⟨d, d2, q1, q2, q3, q4, q5⟩ := eqP_rep R.sub rx ry h2
      exact .inr ⟨d, d2, q1, q2, q3, q4, by rw [q5]; exact k _ _ _ _ _ h R.go (.bl _)⟩
theorem pq_eq (hu : X.A.units + 64 < cLine) (ha : PQ X T a ta) (hb : PQ X T b tb) : PQ X T (.Compare a [.Eq] [b] pos) (qOp qEq ta tb) := pq_cmp rel_eq (OpR.or op_eq (op_eqD hu)) ha hb (nomark _)
theorem pq_ne (hu : X.A.units + 64 < cLine) (ha : PQ X T a ta) (hb : PQ X T b tb) : PQ X T (.Compare a [.NotEq] [b] pos) (qOp qNe ta tb) := pq_cmp rel_ne (OpR.or op_ne (op_neD hu)) ha hb (nomark _)
theorem ptq_eq (hu : X.A.units + 64 < cLine) (ha : PQ X T a ta) (hb : PQ X T b tb) : PTQ X T (.Compare a [.Eq] [b] pos) (qTest (qOp qEq ta tb)) := ptq_cmp rel_eq (OpR.or op_eq (op_eqD hu)) ha hb (nomark _)
theorem ptq_ne (hu : X.A.units + 64 < cLine) (ha : PQ X T a ta) (hb : PQ X T b tb) : PTQ X T (.Compare a [.NotEq] [b] pos) (qTest (qOp qNe ta tb)) := ptq_cmp rel_ne (OpR.or op_ne (op_neD hu)) ha hb (nomark _)

/-! ### order of ints, texts -/
abbrev qLtI : R2Q := qI fun i j => .bl (decide (i < j))
abbrev qLeI : R2Q := qI fun i j => .bl (decide (i ≤ j))
abbrev qGtI : R2Q := qI fun i j => .bl (decide (j < i))
abbrev qGeI : R2Q := qI fun i j => .bl (decide (j ≤ i))
theorem ptq_ltI (ha : PQ X T a ta) (hb : PQ X T b tb) : PTQ X T (.Compare a [.Lt] [b] pos) (qTest (qOp qLtI ta tb)) := ptq_cmp (rel_I fun _ _ _ => .bl _) op_lt ha hb (nomark _)
theorem ptq_leI (ha : PQ X T a ta) (hb : PQ X T b tb) : PTQ X T (.Compare a [.LtE] [b] pos) (qTest (qOp qLeI ta tb)) := ptq_cmp (rel_I fun _ _ _ => .bl _) op_le ha hb (nomark _)
theorem ptq_gtI (ha : PQ X T a ta) (hb : PQ X T b tb) : PTQ X T (.Compare a [.Gt] [b] pos) (qTest (qOp qGtI ta tb)) := ptq_cmp (rel_I fun _ _ _ => .bl _) op_gt ha hb (nomark _)
theorem ptq_geI (ha : PQ X T a ta) (hb : PQ X T b tb) : PTQ X T (.Compare a [.GtE] [b] pos) (qTest (qOp qGeI ta tb)) := ptq_cmp (rel_I fun _ _ _ => .bl _) op_ge ha hb (nomark _)
theorem pq_ltI (ha : PQ X T a ta) (hb : PQ X T b tb) : PQ X T (.Compare a [.Lt] [b] pos) (qOp qLtI ta tb) := pq_cmp (rel_I fun _ _ _ => .bl _) op_lt ha hb (nomark _)
theorem pq_leI (ha : PQ X T a ta) (hb : PQ X T b tb) : PQ X T (.Compare a [.LtE] [b] pos) (qOp qLeI ta tb) := pq_cmp (rel_I fun _ _ _ => .bl _) op_le ha hb (nomark _)
theorem pq_gtI (ha : PQ X T a ta) (hb : PQ X T b tb) : PQ X T (.Compare a [.Gt] [b] pos) (qOp qGtI ta tb) := pq_cmp (rel_I fun _ _ _ => .bl _) op_gt ha hb (nomark _)
theorem pq_geI (ha : PQ X T a ta) (hb : PQ X T b tb) : PQ X T (.Compare a [.GtE] [b] pos) (qOp qGeI ta tb) := pq_cmp (rel_I fun _ _ _ => .bl _) op_ge ha hb (nomark _)
/-- l <= x <= u of ints -/
theorem pq_chainLeLe (ha : PQ X T a ta) (hb : PQ X T b tb) (hc : PQ X T c tc) (hm : lastMarks [.LtE, .LtE] [b, c] = false := by rfl) : PQ X T (.Compare a [.LtE, .LtE] [b, c] pos) (qChain qLeI qLeI ta tb tc) :=
  pq_chain (rel_I fun _ _ _ => .bl _) (rel_I fun _ _ _ => .bl _) op_le op_le ha hb hc hm
def qStr (g : Str → Str → Bool) : R2Q := fun x y A P => match x, y with | .str i, .str j => P (.bl (g i j)) A | _, _ => False
abbrev ltS (i j : Str) : Bool := decide (i.cps.toList < j.cps.toList)
theorem rel_str {K : PySem.W.Frag} {g : Str → Str → Bool} : Rel2 K T (fun x y H Q => ∃ i j, x = .str i ∧ y = .str j ∧ Q (.bl (g i j)) H) (qStr g) := by
  intro F A H x y xv yv P Q RR rx ry h k
  unfold qStr at h
  split at h
  · rw [rx.str_inv, ry.str_inv]
    exact ⟨_, _, rfl, rfl, k _ _ _ _ _ h RR.go (.bl _)⟩
  · exact h.elim
abbrev gtS (i j : Str) : Bool := decide (j.cps.toList < i.cps.toList)
theorem pq_gtS (ha : PQ X T a ta) (hb : PQ X T b tb) : PQ X T (.Compare a [.Gt] [b] pos) (qOp (qStr gtS) ta tb) := pq_cmp (rel_str (g := gtS)) op_gt_str ha hb (nomark _)
theorem ptq_gtS (ha : PQ X T a ta) (hb : PQ X T b tb) : PTQ X T (.Compare a [.Gt] [b] pos) (qTest (qOp (qStr gtS) ta tb)) := ptq_cmp (rel_str (g := gtS)) op_gt_str ha hb (nomark _)
theorem pq_ltS (ha : PQ X T a ta) (hb : PQ X T b tb) : PQ X T (.Compare a [.Lt] [b] pos) (qOp (qStr ltS) ta tb) := pq_cmp (rel_str (g := ltS)) op_lt_str ha hb (nomark _)
theorem ptq_ltS (ha : PQ X T a ta) (hb : PQ X T b tb) : PTQ X T (.Compare a [.Lt] [b] pos) (qTest (qOp (qStr ltS) ta tb)) := ptq_cmp (rel_str (g := ltS)) op_lt_str ha hb (nomark _)
/-- one sign in a text -/
def inSg (a z : Str) : Option Bool := match a.cps.toList with | [c] => some (decide (c ∈ z.cps.toList)) | _ => none
def qInS (neg : Bool) : R2Q := fun x y A P => match x, y with | .str a, .str z => okQ (inSg a z) fun b => P (.bl (if neg then !b else b)) A | _, _ => False
theorem str_one {a : Str} {c : Nat} (h : a.cps.toList = [c]) : a = ⟨#[c]⟩ := by
  obtain ⟨⟨l⟩⟩ := a
  have e : l = [c] := h
  subst e; rfl
theorem rel_inS {K : PySem.W.Frag} : Rel2 K T (fun x y H Q => ∃ (c : Nat) (z : Str), x = .str ⟨#[c]⟩ ∧ y = .str z ∧ Q (.bl (decide (c ∈ z.cps.toList))) H) (qInS false) := by
  intro F A H x y xv yv P Q RR rx ry h k
  unfold qInS at h
  split at h
  · rename_i a z
    rw [rx.str_inv, ry.str_inv]
    cases e : inSg a z with
    | none => rw [e] at h; exact h.elim
    | some b =>
      rw [e] at h
      unfold inSg at e
      split at e
      · rename_i c hc
        injection e with e
        subst e
        exact ⟨c, z, by rw [str_one hc], rfl, k _ _ _ _ _ h RR.go (.bl _)⟩
      · cases e
  · exact h.elim
theorem pq_inS (ha : PQ X T a ta) (hb : PQ X T b tb) (hm : behindInMarks .In b = false := by rfl) : PQ X T (.Compare a [.In] [b] pos) (qOp (qInS false) ta tb) := pq_cmp rel_inS op_in_sign ha hb hm
theorem ptq_inS (ha : PQ X T a ta) (hb : PQ X T b tb) (hm : behindInMarks .In b = false := by rfl) : PTQ X T (.Compare a [.In] [b] pos) (qTest (qOp (qInS false) ta tb)) := ptq_cmp rel_inS op_in_sign ha hb hm
/-- x in a list or tuple of flat things -/
def flD : D → Bool
  | .non => true
  | .bl _ => true
  | .int _ => true
  | .str _ => true
  | _ => false
def fV : D → V
  | .bl b => .bl b
  | .int i => .int i
  | .str x => .str x
  | _ => .non
theorem fV_rep {K : PySem.W.Frag} {F : Hp} {v : V} {d : D} (r : Rep K F v d) (h : flD d = true) : v = fV d ∧ flatV v = true := by
  cases r <;> first | exact ⟨rfl, rfl⟩ | (simp [flD] at h)
theorem fVs_rep {K : PySem.W.Frag} {F : Hp} : ∀ {vs : List V} {ds : List D}, Reps K F vs ds → ds.all flD = true → vs = ds.map fV ∧ vs.all flatV = true
  | _, _, .nil, _ => ⟨rfl, rfl⟩
  | _, _, .cons r rr, h => by
    simp only [List.all_cons, Bool.and_eq_true] at h
    obtain ⟨h1, h2⟩ := fV_rep r h.1
    obtain ⟨h3, h4⟩ := fVs_rep rr h.2
    exact ⟨by rw [h1, h3] <;> rfl, by simp only [List.all_cons, h2, h4, Bool.and_self]⟩
def inD (x : D) (xs : List D) : Bool := inV (fV x) (xs.map fV)
def qIn (neg : Bool) : R2Q := fun x y A P => match y with
  | .lst xs => flD x = true ∧ xs.all flD = true ∧ P (.bl (if neg then !inD x xs else inD x xs)) A
  | .tup xs => flD x = true ∧ xs.all flD = true ∧ P (.bl (if neg then !inD x xs else inD x xs)) A
  | _ => False
theorem rel_in {K : PySem.W.Frag} {neg : Bool} : Rel2 K T (rIn K neg) (qIn neg) := by
  intro F A H x y xv yv P Q RR rx ry h k
  unfold qIn at h
  split at h
  · cases ry with
    | lst hy ry =>
      obtain ⟨h1, h2⟩ := fV_rep rx h.1
      obtain ⟨h3, h4⟩ := fVs_rep ry h.2.1
      exact ⟨_, _, rfl, .inl (.of (RR.sub _ _ hy)), h2, h4, by rw [h1, h3]; exact k _ _ _ _ _ h.2.2 RR.go (.bl _)⟩
  · cases ry with
    | tup hy ry =>
      obtain ⟨h1, h2⟩ := fV_rep rx h.1
      obtain ⟨h3, h4⟩ := fVs_rep ry h.2.1
      exact ⟨_, _, rfl, .inr (sqT_mono RR.sub hy), h2, h4, by rw [h1, h3]; exact k _ _ _ _ _ h.2.2 RR.go (.bl _)⟩
  · exact h.elim
theorem ptq_in (ha : PQ X T a ta) (hb : PQ X T b tb) (hm : behindInMarks .In b = false := by rfl) : PTQ X T (.Compare a [.In] [b] pos) (qTest (qOp (qIn false) ta tb)) := ptq_cmp rel_in op_in_seq ha hb hm
theorem ptq_notin (ha : PQ X T a ta) (hb : PQ X T b tb) (hm : behindInMarks .NotIn b = false := by rfl) : PTQ X T (.Compare a [.NotIn] [b] pos) (qTest (qOp (qIn true) ta tb)) := ptq_cmp rel_in op_notIn_seq ha hb hm

/-! ### is None -/
def isN : D → Bool
  | .non => true
  | _ => false
theorem isN_rep {K : PySem.W.Frag} {F : Hp} {v : V} {d : D} (r : Rep K F v d) : decide (v = .non) = isN d := by
  cases r <;> simp [isN]
def qIsN : R2Q := fun x y A P => match y with | .non => P (.bl (isN x)) A | _ => False
def qNotN : R2Q := fun x y A P => match y with | .non => P (.bl (!isN x)) A | _ => False
theorem rel_isN {K : PySem.W.Frag} : Rel2 K T (fun x y H Q => y = .non ∧ Q (.bl (decide (x = .non))) H) qIsN := by
  intro F A H x y xv yv P Q RR rx ry h k
  unfold qIsN at h
  split at h
  · rw [ry.non_inv]
    exact ⟨rfl, by rw [isN_rep rx]; exact k _ _ _ _ _ h RR.go (.bl _)⟩
  · exact h.elim
theorem rel_notN {K : PySem.W.Frag} : Rel2 K T (fun x y H Q => y = .non ∧ Q (.bl (!decide (x = .non))) H) qNotN := by
  intro F A H x y xv yv P Q RR rx ry h k
  unfold qNotN at h
  split at h
  · rw [ry.non_inv]
    exact ⟨rfl, by rw [isN_rep rx]; exact k _ _ _ _ _ h RR.go (.bl _)⟩
  · exact h.elim
theorem pq_isN (ha : PQ X T a ta) (hb : PQ X T b tb) : PQ X T (.Compare a [.Is] [b] pos) (qOp qIsN ta tb) := pq_cmp rel_isN op_isN ha hb (nomark _)
theorem ptq_isN (ha : PQ X T a ta) (hb : PQ X T b tb) : PTQ X T (.Compare a [.Is] [b] pos) (qTest (qOp qIsN ta tb)) := ptq_cmp rel_isN op_isN ha hb (nomark _)
theorem pq_notN (ha : PQ X T a ta) (hb : PQ X T b tb) : PQ X T (.Compare a [.IsNot] [b] pos) (qOp qNotN ta tb) := pq_cmp rel_notN op_notN ha hb (nomark _)
theorem ptq_notN (ha : PQ X T a ta) (hb : PQ X T b tb) : PTQ X T (.Compare a [.IsNot] [b] pos) (qTest (qOp qNotN ta tb)) := ptq_cmp rel_notN op_notN ha hb (nomark _)

/-! ### subscripts, slices -/
def qIx : R2Q := fun x y A P => match x, y with
  | .lst xs, .int i => okQ (atI xs i) fun d => P d A
  | .tup xs, .int i => okQ (atI xs i) fun d => P d A
  | .mut a, .int i => match A a with | some (.lst xs) => okQ (atI xs i) fun d => P d A | _ => False
  | .str z, .int i => z.length ≤ 100000 ∧ okQ (atI z.cps.toList i) fun c => P (.str ⟨#[c]⟩) A
  | _, _ => False
theorem rel_ix {K : PySem.W.Frag} : Rel2 K T (rIx K) qIx := by
  intro F A H x y xv yv P Q RR rx ry h k
  unfold qIx at h
  split at h
  · rename_i xs i
    cases rx with
    | lst hx rx =>
      rw [ry.int_inv]
      cases e : atI xs i with
      | none => rw [e] at h; exact h.elim
      | some d =>
        rw [e] at h
        obtain ⟨v, h1, h2⟩ := rx.atI e
        exact .inl ⟨_, _, _, v, rfl, rfl, .of (RR.sub _ _ hx), h1, k _ _ _ _ _ h RR.go h2⟩
  · rename_i xs i
    cases rx with
    | tup hx rx =>
      rw [ry.int_inv]
      cases e : atI xs i with
      | none => rw [e] at h; exact h.elim
      | some d =>
        rw [e] at h
        obtain ⟨v, h1, h2⟩ := rx.atI e
        exact .inr (.inl ⟨_, _, _, v, rfl, rfl, sqT_mono RR.sub hx, h1, k _ _ _ _ _ h RR.go h2⟩)
  · rename_i a i
    rw [rx.mut_inv, ry.int_inv]
    split at h
    · rename_i xs hA
      obtain ⟨vs, hH, rv⟩ := (RR.mem a _ hA).2
      cases e : atI xs i with
      | none => rw [e] at h; exact h.elim
      | some d =>
        rw [e] at h
        obtain ⟨v, h1, h2⟩ := rv.atI e
        exact .inl ⟨_, _, _, v, rfl, rfl, .of hH, h1, k _ _ _ _ _ h RR.go h2⟩
    · exact h.elim
  · rename_i z i
    rw [rx.str_inv, ry.int_inv]
    cases e : atI z.cps.toList i with
    | none => rw [e] at h; exact h.2.elim
    | some c =>
      rw [e] at h
      exact .inr (.inr ⟨z, i, c, rfl, rfl, Evl.sz_of h.1, e, k _ _ _ _ _ h.2 RR.go (.str _)⟩)
  · exact h.elim
theorem pq_ix (ha : PQ X T a ta) (hb : PQ X T b tb) (hs : PlainIx b := by exact fun _ _ => rfl) : PQ X T (.Subscript a b pos) (qOp qIx ta tb) :=
  ⟨(pe_ix ix_seq ha.pe hb.pe hs).wk fun _ _ _ h => lift_op rel_ix h⟩
/-- a slice's bound -/
abbrev TOQ := SQ → MH → (Option Int → MH → Prop) → Prop
def liftO (K : PySem.W.Frag) (T : Tz) (t : TOQ) : TO := fun σ H Q => ∃ F A s, Rs K F s σ ∧ RS K T F A H ∧ ∃ P : Option Int → MH → Prop, t s A P ∧ ∀ b A' H' F', P b A' → Go K T F A H F' A' H' → Q b H'
structure POQ (X : Cx) (T : Tz) (e : Option Expr) (t : TOQ) : Prop where
  po : PO X e (liftO X.K T t)
def qoNone : TOQ := fun _ A P => P none A
def qoSome (t : TQ) : TOQ := fun s A P => t s A fun d A1 => match d with | .int i => P (some i) A1 | _ => False
theorem poq_none : POQ X T none qoNone := ⟨⟨fun pins s σ H Q I h => po_none.run pins s σ H Q I (by
  obtain ⟨F, A, s, hs, hR, P, ht, k⟩ := h
  exact k _ _ _ _ ht hR.go)⟩⟩
theorem poq_some (h : PQ X T e te) : POQ X T (some e) (qoSome te) := ⟨⟨fun pins s σ H Q I hh => (po_some h.pe).run pins s σ H Q I (by
  obtain ⟨F, A, s, hs, hR, P, ht, k⟩ := hh
  refine ⟨F, A, s, hs, hR, _, ht, fun d A' v H' F' p g r => ?_⟩
  cases d with
  | int i => cases r; exact ⟨i, rfl, k _ _ _ _ p g⟩
  | _ => exact p.elim)⟩⟩
def cutD (xs : List D) (lo hi : Option Int) : List D := (xs.drop (HT.sIx xs.length 0 lo)).take (HT.sIx xs.length xs.length hi - HT.sIx xs.length 0 lo)
theorem Reps.cut {K : PySem.W.Frag} {F : Hp} {vs : List V} {ds : List D} (r : Reps K F vs ds) (lo hi : Option Int) : Reps K F (cutV vs lo hi) (cutD ds lo hi) := by
  unfold cutV cutD
  rw [r.length]
  exact (r.drop _).take _
def qSl (m : Bool) (te : TQ) (tl th : TOQ) : TQ := fun s A P => te s A fun x A1 => tl s A1 fun lo A2 => th s A2 fun hi A3 => match x with
  | .lst xs => newL m (cutD xs lo hi) A3 P
  | .str z => z.length ≤ 100000 ∧ P (.str (cutS z lo hi)) A3
  | .tup xs => P (.tup (cutD xs lo hi)) A3
  | _ => False
theorem pq_slice (m : Bool) {lo hi : Option Expr} {tl th : TOQ} {p2 : Pos} (he : PQ X T e te) (hl : POQ X T lo tl) (hu : POQ X T hi th) : PQ X T (.Subscript e (.Slice lo hi none p2) pos) (qSl m te tl th) :=
  ⟨(pe_slice (SlR.or (SlR.or sl_list sl_str) sl_tupA) he.pe hl.po hu.po).wk fun σ H Q h => by
    obtain ⟨F, A, s, hs, hR, P, ht, k⟩ := h
    refine ⟨F, A, s, hs, hR, _, ht, fun x A1 xv H1 F1 p1 g1 r1 => ?_⟩
    refine ⟨F1, A1, s, hs.mono g1.ext, g1.rs, _, p1, fun l A2 H2 F2 p2 g2 => ?_⟩
    refine ⟨F2, A2, s, (hs.mono g1.ext).mono g2.ext, g2.rs, _, p2, fun u A3 H3 F3 p3 g3 => ?_⟩
    have gg := (g1.trans g2).trans g3
    have r3 := r1.mono (g2.trans g3).ext
    cases x with
    | lst xs =>
      cases r3 with
      | lst hx rx => exact .inl (.inl ⟨_, _, rfl, .of (g3.rs.sub _ _ hx), fun p hp => newL_ok g3.rs p3 (rx.cut l u) hp fun d A' v H' F' p g r => k _ _ _ _ _ p (gg.trans g) r⟩)
    | str z =>
      cases r3
      exact .inl (.inr ⟨z, rfl, Evl.sz_of p3.1, k _ _ _ _ _ p3.2 gg (.str _)⟩)
    | tup xs =>
      cases r3 with
      | @tup a vs _ hx rx =>
        refine .inr ⟨_, _, rfl, sqT_mono g3.rs.sub hx, fun hw => ?_, fun _ p hp => newT_ok g3.rs p3 (rx.cut l u) hp fun d A' v H' F' p g r => k _ _ _ _ _ p (gg.trans g) r⟩
        refine k _ _ _ _ _ p3 gg ?_
        have e : cutD xs l u = xs := by
          unfold cutD
          rw [rx.length] at hw
          rw [hw.1, hw.2]
          simp
        rw [e]
        exact .tup hx rx
    | _ => exact p3.elim⟩
/-- xs[::-1] -/
def qRevL (m : Bool) (te : TQ) : TQ := fun s A P => te s A fun x A1 => match x with | .lst xs => newL m xs.reverse A1 P | _ => False
theorem pq_revL (m : Bool) {k : Nat} {p1 p2 p3 : Pos} (he : PQ X T e te) : PQ X T (.Subscript e (.Slice none none (some (.UnaryOp .USub (.Constant (.int 1) k p1) p2)) p3) pos) (qRevL m te) :=
  ⟨(pe_revL he.pe).wk fun σ H Q h => by
    obtain ⟨F, A, s, hs, hR, P, ht, k⟩ := h
    refine ⟨F, A, s, hs, hR, _, ht, fun x A1 xv H1 F1 p1 g1 r1 => ?_⟩
    cases x with
    | lst xs =>
      cases r1 with
      | lst hx rx => exact ⟨_, _, rfl, .of (g1.rs.sub _ _ hx), fun p hp => newL_ok g1.rs p1 rx.reverse hp fun d A' v H' F' p g r => k _ _ _ _ _ p (g1.trans g) r⟩
    | _ => exact p1.elim⟩
end
end Qd


set_option Elab.async false
set_option linter.all false
set_option maxRecDepth 100000
set_option maxHeartbeats 4000000
/-! Second layer, part D: built-ins over data. -/
namespace Qd
open PySem L2

/-! ### a built-in's call over data -/
section
variable (K : PySem.W.Frag) (T : Tz)
def liftN (r : RNQ) : List V → Hp → VK → Prop := fun vs H Q => ∃ F A ds, Reps K F vs ds ∧ RS K T F A H ∧ ∃ P : KQ, r ds A P ∧ ∀ d A' v H' F', P d A' → Go K T F A H F' A' H' → Rep K F' v d → Q v H'
end
theorem relN_lift {K : PySem.W.Frag} {T : Tz} {r : RNQ} : RelN K T (liftN K T r) r := fun R rx h k => ⟨_, _, _, rx, R, _, h, k⟩
/-- f, called with data, does as r says -/
structure CQ (X : Cx) (T : Tz) (f : Value) (r : RNQ) : Prop where
  cr : CallR X f (liftN X.K T r)
theorem cq_of {X : Cx} {T : Tz} {f : Value} {R : List V → Hp → VK → Prop} {r : RNQ} (hc : CallR X f R) (rel : RelN X.K T R r) : CQ X T f r := ⟨fun pins s σ H xs us Q I rv h => by
  obtain ⟨F, A, ds, h1, h2, P, h3, h4⟩ := h
  exact hc pins s σ H xs us Q I rv (rel h2 h1 h3 h4)⟩
section
variable {X : Cx} {T : Tz} {e a b c : Expr} {es : List Expr} {te ta tb tc : TQ} {t : TAQ} {pos : Pos} {r : RNQ}
theorem pq_bi {x : Str} {id : String} {p : Pos} (hc : CQ X T (.builtin id) r) (hm : X.mg x = none) (ha : PAQ X T (e :: es) t) (hv : bootBuiltins x = some (.builtin id) := by decide +kernel) (hg : Gl X x := by rfl)
    (hn : x ≠ "__name__" := by decide) (hdb : (x == ("__debug__" : Str)) = false := by decide)
    (he : starEach (e :: es) X.env = (false, eval e X.env) :: starEach es X.env := by rfl) (hpl : (backTo pos (starEach es X.env)).any (·.1) = false := by rfl) : PQ X T (.Call (.Name x p) (e :: es) [] pos) (qCB r t) :=
  pq_callB relN_lift hc.cr hm ha hv hg hn hdb he hpl
theorem pq_bt {x : Str} {id : String} {p : Pos} (hc : CQ X T (.type id) r) (hm : X.mg x = none) (ha : PAQ X T (e :: es) t) (hv : bootBuiltins x = some (.type id) := by decide +kernel) (hg : Gl X x := by rfl)
    (hn : x ≠ "__name__" := by decide) (hdb : (x == ("__debug__" : Str)) = false := by decide)
    (he : starEach (e :: es) X.env = (false, eval e X.env) :: starEach es X.env := by rfl) (hpl : (backTo pos (starEach es X.env)).any (·.1) = false := by rfl) : PQ X T (.Call (.Name x p) (e :: es) [] pos) (qCB r t) :=
  pq_callTy relN_lift hc.cr hm ha hv hg hn hdb he hpl
theorem _root_.Qd.PQ.wk {u : TQ} (h : PQ X T e te) (w : ∀ s A P, u s A P → te s A P) : PQ X T e u := ⟨h.pe.wk fun σ H Q ⟨F, A, s, h1, h2, P, h3, h4⟩ => ⟨F, A, s, h1, h2, P, w _ _ _ h3, h4⟩⟩
end

/-! ### dicts as they stand -/
def RawD (h : Heap) (a : Addr) (ps : List (V × V)) : Prop := (a == sysModules) = false ∧ ps.length ≤ sizeLine ∧ ∃ (o : Obj) (es : Array DictEntry) (ep : Nat), h.get? a = some o ∧ o.ExactDict ∧ o.data = .dict es ep ∧ es.size = ps.length ∧
  Paired (fun (p : V × V) (e : DictEntry) => RelV p.1 e.key ∧ RelV p.2 e.val) ps es.toList
theorem raw_dK {P : Program} {w : World} {H : Hp} {h : Heap} {a : Addr} {kvs : List (Key × V)} (x : ObjOk P w H h a (.dK kvs)) : RawD h a (kvs.map fun p => (kV p.1, p.2)) := by
  obtain ⟨z, lo, vs, kv, o, es, ep, h1, h2, h3, _, h5, _⟩ := x
  have hp : ∀ {kvs : List (Key × V)} {vs : List (Key × Value)} {es : List DictEntry}, KV kvs vs → Pairs (mixKind P w) es vs → Paired (fun (p : V × V) (e : DictEntry) => RelV p.1 e.key ∧ RelV p.2 e.val) (kvs.map fun p => (kV p.1, p.2)) es := by
    intro kvs vs es kv
    induction kv generalizing es with
    | nil => intro q; cases q; exact .nil
    | @cons p q ps qs hh t ih =>
      intro z
      cases z with
      | cons a1 a2 a3 =>
        refine .cons ⟨?_, ?_⟩ (ih a3)
        · show RelV (kV p.1) _
          rw [hh.1]; exact relV_key a1
        · show RelV p.2 _
          rw [a2]; exact hh.2
  have hh := hp kv h5
  have hl := hh.length
  refine ⟨lo, by rw [List.length_map]; exact z, o, es, ep, h1, h2, h3, ?_, hh⟩
  rw [hl]; simp
theorem raw_g {P : Program} {w : World} {H : Hp} {h : Heap} {a : Addr} {ps : List (V × V)} (x : ObjOk P w H h a (GD a ps)) : RawD h a ps := by
  obtain ⟨⟨lo, o, es, ep, h1, h2, h3, h4, h5⟩, _⟩ := x
  have hl := h5.length
  have hl2 : es.toList.length = es.size := by simp
  exact ⟨lo, by omega, o, es, ep, h1, h2, h3, by omega, h5⟩
/-- a dict's entries, whatever stands for it -/
def entD (A : MH) : D → Option (List (D × D))
  | .dic kvs => some (kvs.map fun p => (kD p.1, p.2))
  | .gdc kvs => some kvs
  | .mut a => match A a with | some (.dic kvs) => some (kvs.map fun p => (kD p.1, p.2)) | _ => none
  | _ => none
theorem rep_kD {K : PySem.W.Frag} {F : Hp} (k : Key) : Rep K F (kV k) (kD k) := by
  cases k with
  | inl i => exact .int i
  | inr x => exact .str x
theorem KvRep.k {K : PySem.W.Frag} {F : Hp} : ∀ {ps : List (Key × V)} {ds : List (Key × D)}, KvRep K F ps ds → RepK K F (ps.map fun p => (kV p.1, p.2)) (ds.map fun p => (kD p.1, p.2))
  | _, _, .nil => .nil
  | _, _, .cons r t => .cons (rep_kD _) r (KvRep.k t)
theorem RepK.length {K : PySem.W.Frag} {F : Hp} : ∀ {ps : List (V × V)} {ds : List (D × D)}, RepK K F ps ds → ps.length = ds.length
  | _, _, .nil => rfl
  | _, _, .cons _ _ t => by rw [List.length_cons, List.length_cons, RepK.length t]
theorem ent_rep {X : Cx} {T : Tz} {pins : List (Addr × Obj)} {σ : St} {F H : Hp} {A : MH} {s : Shared} {v : V} {d : D} {kvs : List (D × D)} (I : Inv X pins σ H s) (R : RS X.K T F A H) (r : Rep X.K F v d) (h : entD A d = some kvs) :
    ∃ a ps, v = .ref a ∧ RawD s.heap a ps ∧ RepK X.K F ps kvs := by
  cases r with
  | dic h1 h2 =>
    simp only [entD, Option.some.injEq] at h; subst h
    exact ⟨_, _, rfl, raw_dK (I.hok _ _ (R.sub _ _ h1)).2, h2.k⟩
  | gdc h1 h2 =>
    simp only [entD, Option.some.injEq] at h; subst h
    exact ⟨_, _, rfl, raw_g (I.hok _ _ (R.sub _ _ h1)), h2⟩
  | «mut» a =>
    simp only [entD] at h
    split at h
    · rename_i xs e
      simp only [Option.some.injEq] at h; subst h
      obtain ⟨vs, h1, h2⟩ := (R.mem a _ e).2
      exact ⟨_, _, rfl, raw_dK (I.hok _ _ h1), h2.k⟩
    · cases h
  | _ => simp [entD] at h

/-! ### kinds of data: isinstance -/
inductive Ty where
  | non | bl | int | str | tup | lst | dic
  deriving DecidableEq
def Ty.name : Ty → String
  | .non => "NoneType" | .bl => "bool" | .int => "int" | .str => "str" | .tup => "tuple" | .lst => "list" | .dic => "dict"
def Ty.sub (t c : Ty) : Bool := decide (t = c) || (decide (t = .bl) && decide (c = .int))
/-- the kind of a datum -/
def tyQ (A : MH) : D → Option Ty
  | .non => some .non | .bl _ => some .bl | .int _ => some .int | .str _ => some .str | .tup _ => some .tup | .lst _ => some .lst | .dic _ => some .dic | .gdc _ => some .dic | .frl _ => some .lst
  | .mut a => match A a with | some (.lst _) => some .lst | some (.dic _) => some .dic | some (.dit _) => some .dic | _ => none
  | _ => none
theorem kitB_ty (t c : Ty) (h : c ≠ .non) : kitB t.name c.name = some (t.sub c) := by
  cases t <;> cases c <;> first | exact absurd rfl h | decide +kernel
theorem kitAny_ty {K : PySem.W.Frag} (t : Ty) : ∀ cs : List Ty, (∀ c ∈ cs, c ≠ .non) → PySem.W.kitAny K (.type t.name) (cs.map fun c => .type c.name) = some (cs.any t.sub)
  | [], _ => rfl
  | c :: cs, h => by
    have h1 : PySem.W.kitOne K (.type t.name) (.type c.name) = some (t.sub c) := kit_ty (kitB_ty t c (h c (List.mem_cons_self ..)))
    have ih := kitAny_ty (K := K) t cs fun x hx => h x (List.mem_cons_of_mem _ hx)
    rw [List.map_cons]
    unfold PySem.W.kitAny
    rw [h1, List.any_cons]
    cases e : t.sub c with
    | true => simp
    | false => simp only [Bool.false_or]; exact ih
section
variable {X : Cx} {T : Tz} {pins : List (Addr × Obj)} {σ : St} {F H : Hp} {A : MH} {s : Shared}
theorem kitQ {v : V} {u : Value} {d : D} {t : Ty} (I : Inv X pins σ H s) (R : RS X.K T F A H) (r : Rep X.K F v d) (rv : RelV v u) (h : tyQ A d = some t) : ∃ P : Heap → Prop, PySem.W.KitX X.K u (.type t.name) P ∧ P s.heap ∧ u ≠ .builtin "__main__.__loader__#opaque" := by
  cases r with
  | non => simp only [tyQ, Option.some.injEq] at h; subst h; exact kit_of I rv (.base .non)
  | bl b => simp only [tyQ, Option.some.injEq] at h; subst h; exact kit_of I rv (.base (.bl b))
  | int b => simp only [tyQ, Option.some.injEq] at h; subst h; exact kit_of I rv (.base (.int b))
  | str b => simp only [tyQ, Option.some.injEq] at h; subst h; exact kit_of I rv (.base (.str b))
  | ty b => simp [tyQ] at h
  | lam _ _ => simp [tyQ] at h
  | tup hs _ =>
    simp only [tyQ, Option.some.injEq] at h; subst h
    cases (show u = Value.ref _ from rv)
    obtain ⟨its, _, ⟨o, h1, h2, _⟩, _⟩ := I.tuple (sqT_mono R.sub hs)
    exact ⟨_, PySem.W.kitx_tuple, ⟨o, h1, h2⟩, fun z => nomatch z⟩
  | lst hs _ => simp only [tyQ, Option.some.injEq] at h; subst h; exact kit_of I rv (.base (.lst (R.sub _ _ hs)))
  | frl hs _ =>
    simp only [tyQ, Option.some.injEq] at h; subst h
    cases (show u = Value.ref _ from rv)
    obtain ⟨its, _, ⟨o, n, h1, h2, _⟩, _⟩ := I.list (R.sub.seq hs)
    exact ⟨_, PySem.W.kitx_list, ⟨o, h1, h2⟩, fun z => nomatch z⟩
  | dic hs _ => simp only [tyQ, Option.some.injEq] at h; subst h; exact kit_of I rv (.fDict (R.sub _ _ hs))
  | gdc hs _ =>
    simp only [tyQ, Option.some.injEq] at h; subst h
    cases (show u = Value.ref _ from rv)
    obtain ⟨_, _, o, es, ep, h1, h2, _⟩ := raw_g (I.hok _ _ (R.sub _ _ hs))
    exact ⟨_, PySem.W.kitx_dict, ⟨o, h1, h2.1⟩, fun z => nomatch z⟩
  | «mut» a =>
    simp only [tyQ] at h
    split at h
    · rename_i xs e
      simp only [Option.some.injEq] at h; subst h
      obtain ⟨vs, h1, _⟩ := (R.mem a _ e).2
      exact kit_of I rv (.base (.lst h1))
    · rename_i xs e
      simp only [Option.some.injEq] at h; subst h
      obtain ⟨vs, h1, _⟩ := (R.mem a _ e).2
      exact kit_of I rv (.base (.dK h1))
    · rename_i xs e
      simp only [Option.some.injEq] at h; subst h
      obtain ⟨vs, h1, _⟩ := (R.mem a _ e).2
      exact kit_of I rv (.base (.dT h1))
    · cases h
  | fn a => simp [tyQ] at h
theorem reps_ty {K : PySem.W.Frag} : ∀ {cs : List Ty} {vs : List V}, Reps K F vs (cs.map fun c => .ty c.name) → vs = cs.map fun c => .ty c.name
  | [], _, h => by cases h; rfl
  | c :: cs, _, h => by
    cases h with
    | cons a b => rw [a.ty_inv, reps_ty b] <;> rfl
theorem vals_ty : ∀ {cs : List Ty} {us : List Value}, Vals (cs.map fun c => V.ty c.name) us → us = cs.map fun c => .type c.name
  | [], _, h => by cases h; rfl
  | c :: cs, _, h => by
    cases h with
    | cons a b => rw [show _ = Value.type c.name from a, vals_ty b] <;> rfl
end
def rIs1 : RNQ := fun xs A P => ∃ x t c, xs = [x, .ty (Ty.name c)] ∧ c ≠ .non ∧ tyQ A x = some t ∧ P (.bl (t.sub c)) A
def rIsN : RNQ := fun xs A P => ∃ x t, ∃ cs : List Ty, xs = [x, .tup (cs.map fun c => .ty c.name)] ∧ (∀ c ∈ cs, c ≠ .non) ∧ tyQ A x = some t ∧ P (.bl (cs.any t.sub)) A
section
variable {X : Cx} {T : Tz}
theorem cq_is1 : CQ X T (.builtin "isinstance") rIs1 := ⟨fun pins s σ H xs us Q I r h => by
  obtain ⟨F, A, ds, h1, R, P, ⟨x, t, c, rfl, hc, hx, p⟩, k⟩ := h
  cases h1 with
  | cons a1 b1 => cases b1 with
    | cons a2 b2 =>
      cases b2
      obtain ⟨u1, u2, rfl, r1, r2⟩ := vals2 r
      rw [a2.ty_inv] at r2
      obtain rfl : u2 = Value.type c.name := r2
      obtain ⟨PP, Z, pp, hn⟩ := kitQ I R a1 r1 hx
      exact PySem.W.kia_one Z I.kIn pp (kit_ty (kitB_ty t c hc)) hn fun tk => ⟨.bl (t.sub c), H, I.tok tk, rfl, k _ _ _ _ _ p R.go (.bl _)⟩⟩
theorem cq_isN : CQ X T (.builtin "isinstance") rIsN := ⟨fun pins s σ H xs us Q I r h => by
  obtain ⟨F, A, ds, h1, R, P, ⟨x, t, cs, rfl, hc, hx, p⟩, k⟩ := h
  cases h1 with
  | cons a1 b1 => cases b1 with
    | cons a2 b2 =>
      cases b2
      obtain ⟨u1, u2, rfl, r1, r2⟩ := vals2 r
      cases a2 with
      | @tup a vs _ hs rr =>
        obtain rfl : u2 = Value.ref a := r2
        obtain ⟨PP, Z, pp, hn⟩ := kitQ I R a1 r1 hx
        obtain ⟨its, rv, ⟨o, e1, e2, n, e3⟩, _⟩ := I.tuple (sqT_mono R.sub hs)
        rw [reps_ty rr] at rv
        have e4 := vals_ty rv
        subst e4
        obtain ⟨oc, od, dt, sl⟩ := o
        simp only at e2 e3
        subst e2 e3
        exact PySem.W.kia_tup Z I.kIn pp e1 (kitAny_ty t cs hc) hn fun tk => ⟨.bl (cs.any t.sub), H, I.tok tk, rfl, k _ _ _ _ _ p R.go (.bl _)⟩⟩
/-- isinstance(e, C), isinstance(e, (C1, ..)) -/
def qIs (cs : List Ty) (te : TQ) : TQ := fun s A P => te s A fun x A1 => okQ (tyQ A1 x) fun t => P (.bl (cs.any t.sub)) A1
theorem lift_cb2 {K : PySem.W.Frag} {ta : TQ} {r : RNQ} {d : D} {td : TQ} {r' : D → MH → KQ → Prop} (hd : ∀ s A P, P d A → td s A P) (hr : ∀ x A P, r' x A P → r [x, d] A P) {σ : St} {H : Hp} {Q : VK} (h : lift K T (fun s A P => ta s A fun x A1 => r' x A1 P) σ H Q) :
    tCB (liftN K T r) (tCons (lift K T ta) (tCons (lift K T td) tNil)) σ H Q := by
  obtain ⟨F, A, s, hs, hR, P, ht, k⟩ := h
  refine ⟨F, A, s, hs, hR, _, ht, fun x A1 xv H1 F1 p1 g1 r1 => ?_⟩
  refine ⟨F1, A1, s, hs.mono g1.ext, g1.rs, fun y A2 => y = d ∧ A2 = A1, hd _ _ _ ⟨rfl, rfl⟩, fun y A2 yv H2 F2 p2 g2 r2 => ?_⟩
  obtain ⟨rfl, rfl⟩ := p2
  exact ⟨F2, A2, [x, y], .cons (r1.mono g2.ext) (.cons r2 .nil), g2.rs, P, hr _ _ _ p1, fun d A' v H' F' p g r => k d A' v H' F' p ((g1.trans g2).trans g) r⟩
theorem pq_ist1 {a b : Expr} {ta : TQ} {x : Str} {p pos : Pos} (c : Ty) (ha : PQ X T a ta) (hb : PQ X T b (qC (.ty c.name))) (hm : X.mg x = none) (hx : x = "isinstance" := by rfl) (hc : c ≠ .non := by decide) (hg : Gl X x := by rfl)
    (he : starEach [a, b] X.env = (false, eval a X.env) :: starEach [b] X.env := by rfl) (he2 : starEach [b] X.env = (false, eval b X.env) :: starEach [] X.env := by rfl) (hpl : (backTo pos (starEach [b] X.env)).any (·.1) = false := by rfl) :
    PQ X T (.Call (.Name x p) [a, b] [] pos) (qIs [c] ta) := by
  subst hx
  refine ⟨(pe_callB (cq_is1 (T := T)).cr hg hm (by decide +kernel) (pa_cons ha.pe (pa_cons hb.pe pa_nil he2) he) (by decide) (by decide) he hpl).wk fun σ H Q h => ?_⟩
  refine lift_cb2 (d := .ty c.name) (r' := fun x A1 P => okQ (tyQ A1 x) fun t => P (.bl ([c].any t.sub)) A1) (fun s A P h => h) (fun x A P h => ?_) h
  cases hx : tyQ A x with
  | none => rw [hx] at h; exact h.elim
  | some t => rw [hx] at h; exact ⟨x, t, c, rfl, hc, hx, by simpa [okQ] using h⟩
/-- a tuple of classes as it stands in the text -/
inductive TyEs (X : Cx) (T : Tz) : List Expr → List Ty → Prop
  | nil : TyEs X T [] []
  | cons {e : Expr} {es : List Expr} {c : Ty} {cs : List Ty} (h : PQ X T e (qC (.ty c.name))) (hs : starEach (e :: es) X.env = (false, eval e X.env) :: starEach es X.env) (r : TyEs X T es cs) : TyEs X T (e :: es) (c :: cs)
theorem TyEs.paq : ∀ {es : List Expr} {cs : List Ty}, TyEs X T es cs → PAQ X T es (fun _ A P => P (cs.map fun c => .ty c.name) A)
  | _, _, .nil => ⟨paq_nil.pa⟩
  | _, _, .cons h hs r => ⟨(paq_cons h (TyEs.paq r) hs).pa⟩
theorem pq_istN {a : Expr} {es : List Expr} {cs : List Ty} {ta : TQ} {x : Str} {k : Nat} {p p2 pos : Pos} (ha : PQ X T a ta) (hb : TyEs X T es cs) (hm : X.mg x = none) (hx : x = "isinstance" := by rfl) (hc : ∀ c ∈ cs, c ≠ .non := by decide) (hl : cs.length ≤ 100000 := by decide) (hg : Gl X x := by rfl)
    (he : starEach [a, .Tuple es k p2] X.env = (false, eval a X.env) :: starEach [.Tuple es k p2] X.env := by rfl) (he2 : starEach [.Tuple es k p2] X.env = (false, eval (.Tuple es k p2) X.env) :: starEach [] X.env := by rfl) (hpl : (backTo pos (starEach [.Tuple es k p2] X.env)).any (·.1) = false := by rfl) :
    PQ X T (.Call (.Name x p) [a, .Tuple es k p2] [] pos) (qIs cs ta) := by
  subst hx
  refine ⟨(pe_callB (cq_isN (T := T)).cr hg hm (by decide +kernel) (pa_cons ha.pe (pa_cons (pq_tup hb.paq).pe pa_nil he2) he) (by decide) (by decide) he hpl).wk fun σ H Q h => ?_⟩
  refine lift_cb2 (d := .tup (cs.map fun c => .ty c.name)) (r' := fun x A1 P => okQ (tyQ A1 x) fun t => P (.bl (cs.any t.sub)) A1) (fun s A P h => ⟨by rw [List.length_map]; exact hl, h⟩) (fun x A P h => ?_) h
  cases hx : tyQ A x with
  | none => rw [hx] at h; exact h.elim
  | some t => rw [hx] at h; exact ⟨x, t, cs, rfl, hc, hx, h⟩
end
end Qd


set_option Elab.async false
set_option linter.all false
set_option maxRecDepth 100000
set_option maxHeartbeats 4000000
/-! Second layer, part E: len, all, any, sum, min, list, tuple, sorted, dict over data. -/
namespace Qd
open PySem L2

/-! ### sequences -/
def seqD (A : MH) : D → Option (List D)
  | .lst xs => some xs | .tup xs => some xs | .frl xs => some xs
  | .mut a => match A a with | some (.lst xs) => some xs | _ => none
  | _ => none
def lstD (A : MH) : D → Option (List D)
  | .lst xs => some xs | .frl xs => some xs
  | .mut a => match A a with | some (.lst xs) => some xs | _ => none
  | _ => none
section
variable {K : PySem.W.Frag} {T : Tz} {F H : Hp} {A : MH}
theorem lst_rep {v : V} {d : D} {xs : List D} (R : RS K T F A H) (r : Rep K F v d) (h : lstD A d = some xs) : ∃ a vs, v = .ref a ∧ SqL K H a vs ∧ Reps K F vs xs := by
  cases r with
  | lst h1 h2 => simp only [lstD, Option.some.injEq] at h; subst h; exact ⟨_, _, rfl, .of (R.sub _ _ h1), h2⟩
  | frl h1 h2 => simp only [lstD, Option.some.injEq] at h; subst h; exact ⟨_, _, rfl, R.sub.seq h1, h2⟩
  | «mut» a =>
    simp only [lstD] at h
    split at h
    · rename_i xs e
      simp only [Option.some.injEq] at h; subst h
      obtain ⟨vs, h1, h2⟩ := (R.mem a _ e).2
      exact ⟨_, _, rfl, .of h1, h2⟩
    · cases h
  | _ => simp [lstD] at h
theorem seq_rep {v : V} {d : D} {xs : List D} (R : RS K T F A H) (r : Rep K F v d) (h : seqD A d = some xs) : ∃ a vs, v = .ref a ∧ (SqL K H a vs ∨ SqT K H a vs) ∧ Reps K F vs xs := by
  cases r with
  | tup h1 h2 => simp only [seqD, Option.some.injEq] at h; subst h; exact ⟨_, _, rfl, .inr (sqT_mono R.sub h1), h2⟩
  | lst h1 h2 => simp only [seqD, Option.some.injEq] at h; subst h; exact ⟨_, _, rfl, .inl (.of (R.sub _ _ h1)), h2⟩
  | frl h1 h2 => simp only [seqD, Option.some.injEq] at h; subst h; exact ⟨_, _, rfl, .inl (R.sub.seq h1), h2⟩
  | «mut» a =>
    simp only [seqD] at h
    split at h
    · rename_i xs e
      simp only [Option.some.injEq] at h; subst h
      obtain ⟨vs, h1, h2⟩ := (R.mem a _ e).2
      exact ⟨_, _, rfl, .inl (.of h1), h2⟩
    · cases h
  | _ => simp [seqD] at h
end
/-! lists of ints, of texts, of bools -/
def intsD : List D → Option (List Int)
  | [] => some []
  | .int i :: r => (intsD r).map (i :: ·)
  | _ :: _ => none
def strsD : List D → Option (List Str)
  | [] => some []
  | .str i :: r => (strsD r).map (i :: ·)
  | _ :: _ => none
def blsD : List D → Option (List Bool)
  | [] => some []
  | .bl i :: r => (blsD r).map (i :: ·)
  | _ :: _ => none
theorem intsD_map (ns : List Int) : intsD (ns.map .int) = some ns := by
  induction ns with
  | nil => rfl
  | cons a r ih => simp [intsD, ih]
theorem strsD_map (ns : List Str) : strsD (ns.map .str) = some ns := by
  induction ns with
  | nil => rfl
  | cons a r ih => simp [strsD, ih]
theorem blsD_map (ns : List Bool) : blsD (ns.map .bl) = some ns := by
  induction ns with
  | nil => rfl
  | cons a r ih => simp [blsD, ih]
section
variable {K : PySem.W.Frag} {F : Hp}
theorem ints_rep : ∀ {ds : List D} {vs : List V} {ns : List Int}, Reps K F vs ds → intsD ds = some ns → vs = ns.map .int
  | [], _, ns, .nil, h => by simp only [intsD, Option.some.injEq] at h; subst h; rfl
  | d :: ds, _, ns, .cons r rr, h => by
    cases d with
    | int i =>
      simp only [intsD, Option.map_eq_some_iff] at h
      obtain ⟨ms, h1, rfl⟩ := h
      rw [r.int_inv, ints_rep rr h1] <;> rfl
    | _ => simp [intsD] at h
theorem strs_rep : ∀ {ds : List D} {vs : List V} {ns : List Str}, Reps K F vs ds → strsD ds = some ns → vs = ns.map .str
  | [], _, ns, .nil, h => by simp only [strsD, Option.some.injEq] at h; subst h; rfl
  | d :: ds, _, ns, .cons r rr, h => by
    cases d with
    | str i =>
      simp only [strsD, Option.map_eq_some_iff] at h
      obtain ⟨ms, h1, rfl⟩ := h
      rw [r.str_inv, strs_rep rr h1] <;> rfl
    | _ => simp [strsD] at h
theorem bls_rep : ∀ {ds : List D} {vs : List V} {ns : List Bool}, Reps K F vs ds → blsD ds = some ns → vs = ns.map .bl
  | [], _, ns, .nil, h => by simp only [blsD, Option.some.injEq] at h; subst h; rfl
  | d :: ds, _, ns, .cons r rr, h => by
    cases d with
    | bl i =>
      simp only [blsD, Option.map_eq_some_iff] at h
      obtain ⟨ms, h1, rfl⟩ := h
      rw [r.bl_inv, bls_rep rr h1] <;> rfl
    | _ => simp [blsD] at h
theorem reps_int : ∀ ns : List Int, Reps K F (ns.map .int) (ns.map .int)
  | [] => .nil
  | i :: r => .cons (.int i) (reps_int r)
theorem reps_str : ∀ ns : List Str, Reps K F (ns.map .str) (ns.map .str)
  | [] => .nil
  | i :: r => .cons (.str i) (reps_str r)
end

/-! ### len -/
def lenD (A : MH) (d : D) : Option Nat := match d with
  | .str x => if x.length ≤ 100000 then some x.length else none
  | .dic kvs => some kvs.length
  | .gdc kvs => some kvs.length
  | .mut a => match A a with | some (.lst xs) => some xs.length | some (.dic kvs) => some kvs.length | _ => none
  | d => (seqD A d).map List.length
def rLen : RNQ := fun xs A P => match xs with | [d] => okQ (lenD A d) fun n => P (.int n) A | _ => False
section
variable {prog : Program} {w : World} {A : Around} {E : Value → Shared → Prop} {s : Shared}
theorem len_rawD {a : Addr} {ps : List (V × V)} {Q : Value → Shared → Prop} (h : RawD s.heap a ps) (q : ∀ t tk, Q (.int ps.length t) { s with toks := tk }) : wpAny (model prog w) A (call (.builtin "len") [.ref a]) Q E s := by
  obtain ⟨lo, hz, o, es, ep, h1, h2, h3, h4, _⟩ := h
  have ty : s.TypeIs (.ref a) "dict" := ⟨o, h1, h2.1⟩
  have hz' : (es.size : Int) < 2 ^ 63 := by rw [h4]; rw [sizeLine_eq] at hz; omega
  refine Calls.call_function_entry kind_len plain_len entry_len (args_len1 _) ?_
  unfold Builtin.«len»
  refine wpAny_bind (m := oneArg "len" _) (wpAny_pure ?_)
  refine wpAny_bind (m := callSpecial? (.ref a) (Str.ofString "__len__")) (wpAny_callSpecial?_slot (name := Str.ofString "__len__") ty F.slot_dict_len (call_len_raw (es := es) (ep := ep) lo ⟨o, h1, h2, h3⟩ ?_))
  show wpAny _ _ _ _ _ { s with toks := s.toks + 1 }
  refine wpAny_bind (wpAny_holding (wpAny_pure ?_))
  refine wpAny_bind (wpAny_letGo ?_)
  show wpAny _ _ (if ((es.size : Nat) : Int) < 0 then _ else _) _ _ _
  rw [if_neg (by omega)]
  show wpAny _ _ (if ((es.size : Nat) : Int) ≥ 2 ^ 63 then _ else _) _ _ _
  rw [if_neg (by omega)]
  refine wpAny_bind (wpAny_mkInt (wpAny_pure ⟨_, rfl, ?_⟩))
  rw [h4]
  exact q _ _
end
section
variable {X : Cx} {T : Tz}
theorem cq_len : CQ X T (.builtin "len") rLen := ⟨fun pins s σ H xs us Q I r h => by
  obtain ⟨F, A, ds, h1, R, P, h2, k⟩ := h
  unfold rLen at h2
  split at h2
  · rename_i d
    cases h1 with
    | cons a b =>
      cases b
      have viaL : ∀ n, LenV X.K _ H n → P (.int n) A → wpAny (model X.prog X.w) X.A (call (.builtin "len") us) (EP X pins σ Q) X.xe s := fun n hn p => call_len pins s σ H _ us Q I r ⟨_, n, rfl, hn, k _ _ _ _ _ p R.go (.int _)⟩
      have viaS : ∀ xs, seqD A d = some xs → P (.int xs.length) A → wpAny (model X.prog X.w) X.A (call (.builtin "len") us) (EP X pins σ Q) X.xe s := fun xs hn p => by
        obtain ⟨b, vs, e1, e2, e3⟩ := seq_rep R a hn
        subst e1
        refine viaL _ ?_ p
        rw [← e3.length]
        rcases e2 with e2 | e2
        · exact .inl ⟨_, e2, rfl⟩
        · exact .inr ⟨_, e2, rfl⟩
      have viaD : ∀ kvs, entD A d = some kvs → P (.int kvs.length) A → wpAny (model X.prog X.w) X.A (call (.builtin "len") us) (EP X pins σ Q) X.xe s := fun kvs hn p => by
        obtain ⟨b, ps, e1, e2, e3⟩ := ent_rep I R a hn
        subst e1
        obtain ⟨u, rfl, ru⟩ := vals1 r
        obtain rfl : u = Value.ref b := ru
        refine len_rawD e2 fun t tk => ⟨.int kvs.length, H, I.tok _, ⟨t, by rw [e3.length]⟩, k _ _ _ _ _ p R.go (.int _)⟩
      cases d with
      | str x =>
        simp only [lenD] at h2
        split at h2
        · rename_i hx
          obtain rfl := a.str_inv
          exact viaL _ ⟨Evl.sz_of hx, rfl⟩ h2
        · exact h2.elim
      | dic kvs => exact viaD _ rfl (by rw [List.length_map]; exact h2)
      | gdc kvs => exact viaD _ rfl h2
      | «mut» b =>
        simp only [lenD] at h2
        split at h2
        · rename_i ys e
          exact viaS ys (by simp only [seqD, e]) h2
        · rename_i ys e
          exact viaD (ys.map fun p => (kD p.1, p.2)) (by simp only [entD, e]) (by rw [List.length_map]; exact h2)
        · exact h2.elim
      | lst xs => exact viaS xs rfl h2
      | tup xs => exact viaS xs rfl h2
      | frl xs => exact viaS xs rfl h2
      | _ => exact h2.elim
  · exact h2.elim⟩
/-- a rule for one argument -/
theorem reps1 {K : PySem.W.Frag} {F : Hp} {vs : List V} {d : D} (h : Reps K F vs [d]) : ∃ v, vs = [v] ∧ Rep K F v d := by
  cases h with
  | cons a b => cases b; exact ⟨_, rfl, a⟩
theorem reps2 {K : PySem.W.Frag} {F : Hp} {vs : List V} {d e : D} (h : Reps K F vs [d, e]) : ∃ v w, vs = [v, w] ∧ Rep K F v d ∧ Rep K F w e := by
  cases h with
  | cons a b => cases b with
    | cons c f => cases f; exact ⟨_, _, rfl, a, c⟩
def rAllQ : RNQ := fun xs A P => match xs with | [d] => okQ ((lstD A d).bind blsD) fun bs => P (.bl (bs.all id)) A | _ => False
def rAnyQ : RNQ := fun xs A P => match xs with | [d] => okQ ((lstD A d).bind blsD) fun bs => P (.bl (bs.any id)) A | _ => False
def rSumQ : RNQ := fun xs A P => match xs with | [d] => okQ ((lstD A d).bind intsD) fun ns => P (.int ns.sum) A | _ => False
def minI : List Int → Int
  | [] => 0
  | [a] => a
  | a :: b :: r => min a (minI (b :: r))
theorem minI_mem : ∀ {ns : List Int}, 0 < ns.length → minI ns ∈ ns ∧ ∀ y ∈ ns, minI ns ≤ y
  | [], h => absurd h (by simp)
  | [a], _ => by simp [minI]
  | a :: b :: r, _ => by
    obtain ⟨h1, h2⟩ := minI_mem (ns := b :: r) (by simp)
    have e : minI (a :: b :: r) = min a (minI (b :: r)) := rfl
    rw [e]
    refine ⟨?_, fun y hy => ?_⟩
    · rcases Int.le_total a (minI (b :: r)) with q | q
      · rw [Int.min_eq_left q]; exact List.mem_cons_self ..
      · rw [Int.min_eq_right q]; exact List.mem_cons_of_mem _ h1
    · rcases List.mem_cons.mp hy with q | q
      · subst q; exact Int.min_le_left _ _
      · exact Int.le_trans (Int.min_le_right _ _) (h2 y q)
theorem minI_uniq {ns : List Int} {m : Int} (h : 0 < ns.length) (h1 : m ∈ ns) (h2 : ∀ y ∈ ns, m ≤ y) : m = minI ns :=
  Int.le_antisymm (h2 _ (minI_mem h).1) ((minI_mem h).2 _ h1)
def maxI : List Int → Int
  | [] => 0
  | [a] => a
  | a :: b :: r => max a (maxI (b :: r))
theorem maxI_mem : ∀ {ns : List Int}, 0 < ns.length → maxI ns ∈ ns ∧ ∀ y ∈ ns, y ≤ maxI ns
  | [], h => absurd h (by simp)
  | [a], _ => by simp [maxI]
  | a :: b :: r, _ => by
    obtain ⟨h1, h2⟩ := maxI_mem (ns := b :: r) (by simp)
    have e : maxI (a :: b :: r) = max a (maxI (b :: r)) := rfl
    rw [e]
    refine ⟨?_, fun y hy => ?_⟩
    · rcases Int.le_total a (maxI (b :: r)) with q | q
      · rw [Int.max_eq_right q]; exact List.mem_cons_of_mem _ h1
      · rw [Int.max_eq_left q]; exact List.mem_cons_self ..
    · rcases List.mem_cons.mp hy with q | q
      · subst q; exact Int.le_max_left _ _
      · exact Int.le_trans (h2 y q) (Int.le_max_right _ _)
theorem maxI_uniq {ns : List Int} {m : Int} (h : 0 < ns.length) (h1 : m ∈ ns) (h2 : ∀ y ∈ ns, y ≤ m) : m = maxI ns :=
  Int.le_antisymm ((maxI_mem h).2 _ h1) (h2 _ (maxI_mem h).1)
def rMinQ : RNQ := fun xs A P => match xs with
  | [d] => okQ ((lstD A d).bind intsD) fun ns => 0 < ns.length ∧ P (.int (minI ns)) A
  | _ => False
def rMaxQ : RNQ := fun xs A P => match xs with
  | [d] => okQ ((lstD A d).bind intsD) fun ns => 0 < ns.length ∧ P (.int (maxI ns)) A
  | _ => False
def rAbsQ : RNQ := fun xs A P => match xs with | [.int i] => P (.int (if i < 0 then -i else i)) A | _ => False
def rIntQ : RNQ := fun xs A P => match xs with | [.int i] => P (.int i) A | _ => False
section
variable {K : PySem.W.Frag}
/-- a built-in over a list, whose rule asks the list's data be vs -/
theorem rel_lst {α : Type} {R : List V → Hp → VK → Prop} {f : List D → Option α} {toV : α → List V} {c : α → KQ → MH → Prop} (hf : ∀ {F : Hp} {ds : List D} {vs : List V} {x : α}, Reps K F vs ds → f ds = some x → vs = toV x)
    (hR : ∀ (a : Addr) (x : α) (F : Hp) (A : MH) (H : Hp) (P : KQ) (Q : VK), RS K T F A H → SqL K H a (toV x) → c x P A → (∀ d A' v H' F', P d A' → Go K T F A H F' A' H' → Rep K F' v d → Q v H') → R [.ref a] H Q) :
    RelN K T R (fun xs A P => match xs with | [d] => okQ ((lstD A d).bind f) fun x => c x P A | _ => False) := by
  intro F A H xs xv P Q RR rx h k
  split at h
  · rename_i d
    obtain ⟨v, rfl, rv⟩ := reps1 rx
    cases e : lstD A d with
    | none => rw [e] at h; exact h.elim
    | some ys =>
      rw [e] at h
      cases e2 : f ys with
      | none => rw [Option.bind_some, e2] at h; exact h.elim
      | some x =>
        rw [Option.bind_some, e2] at h
        obtain ⟨a, vs, rfl, h2, h3⟩ := lst_rep RR rv e
        have e3 := hf h3 e2
        subst e3
        exact hR a x F A H P Q RR h2 h k
  · exact h.elim
end
theorem cq_all (hc : X.calm = true) : CQ X T (.builtin "all") rAllQ := cq_of (cr_all hc) (rel_lst (c := fun bs P A => P (.bl (bs.all id)) A) (fun r h => bls_rep r h) fun a bs F A H P Q R h p k => ⟨a, bs, rfl, h, k _ _ _ _ _ p R.go (.bl _)⟩)
theorem cq_any (hc : X.calm = true) : CQ X T (.builtin "any") rAnyQ := cq_of (cr_any hc) (rel_lst (c := fun bs P A => P (.bl (bs.any id)) A) (fun r h => bls_rep r h) fun a bs F A H P Q R h p k => ⟨a, bs, rfl, h, k _ _ _ _ _ p R.go (.bl _)⟩)
theorem cq_sum (hc : X.calm = true) : CQ X T (.builtin "sum") rSumQ := cq_of (cr_sum hc) (rel_lst (c := fun ns P A => P (.int ns.sum) A) (fun r h => ints_rep r h) fun a bs F A H P Q R h p k => ⟨a, bs, rfl, h, k _ _ _ _ _ p R.go (.int _)⟩)
theorem cq_min (hc : X.calm = true) : CQ X T (.builtin "min") rMinQ := cq_of (cr_min hc) (rel_lst (c := fun ns P A => 0 < ns.length ∧ P (.int (minI ns)) A) (fun r h => ints_rep r h) fun a bs F A H P Q R h p k => ⟨a, bs, rfl, h, p.1, fun m h1 h2 => by rw [minI_uniq p.1 h1 h2]; exact k _ _ _ _ _ p.2 R.go (.int _)⟩)
theorem cq_max (hc : X.calm = true) : CQ X T (.builtin "max") rMaxQ := cq_of (cr_max hc) (rel_lst (c := fun ns P A => 0 < ns.length ∧ P (.int (maxI ns)) A) (fun r h => ints_rep r h) fun a bs F A H P Q R h p k => ⟨a, bs, rfl, h, p.1, fun m h1 h2 => by rw [maxI_uniq p.1 h1 h2]; exact k _ _ _ _ _ p.2 R.go (.int _)⟩)
theorem cq_abs : CQ X T (.builtin "abs") rAbsQ := cq_of call_abs (by
  intro F A H xs xv P Q RR rx h k
  unfold rAbsQ at h
  split at h
  · rename_i i
    obtain ⟨v, rfl, rv⟩ := reps1 rx
    rw [rv.int_inv]
    exact ⟨i, rfl, k _ _ _ _ _ h RR.go (.int _)⟩
  · exact h.elim)
theorem cq_int : CQ X T (.type "int") rIntQ := cq_of call_int1 (by
  intro F A H xs xv P Q RR rx h k
  unfold rIntQ at h
  split at h
  · rename_i i
    obtain ⟨v, rfl, rv⟩ := reps1 rx
    rw [rv.int_inv]
    exact .inl ⟨i, rfl, k _ _ _ _ _ h RR.go (.int _)⟩
  · exact h.elim)

/-! ### list(x), tuple(x) -/
def keysD (kvs : List (Key × D)) : List D := kvs.map fun p => kD p.1
def rListQ (m : Bool) : RNQ := fun xs A P => match xs with
  | [d] => match seqD A d with
    | some ys => newL m ys A P
    | none => okQ (entD A d) fun kvs => newL m (kvs.map (·.1)) A P
  | _ => False
theorem RepK.keys {K : PySem.W.Frag} {F : Hp} : ∀ {ps : List (V × V)} {ds : List (D × D)}, RepK K F ps ds → Reps K F (ps.map (·.1)) (ds.map (·.1))
  | _, _, .nil => .nil
  | _, _, .cons a _ t => .cons a (RepK.keys t)
theorem RepK.vals {K : PySem.W.Frag} {F : Hp} : ∀ {ps : List (V × V)} {ds : List (D × D)}, RepK K F ps ds → Reps K F (ps.map (·.2)) (ds.map (·.2))
  | _, _, .nil => .nil
  | _, _, .cons _ a t => .cons a (RepK.vals t)
theorem paired_at {α β : Type} {F : α → β → Prop} : ∀ {xs : List α} {ys : List β}, Paired F xs ys → ∀ {i : Nat} {x : α} {y : β}, xs[i]? = some x → ys[i]? = some y → F x y
  | _, _, .nil, i, x, y, h, _ => by simp at h
  | _, _, .cons r _, 0, x, y, h, h2 => by simp at h h2; subst h h2; exact r
  | _, _, .cons _ t, i + 1, x, y, h, h2 => paired_at t (by simpa using h) (by simpa using h2)
theorem cq_list (m : Bool) (hc : X.calm = true) : CQ X T (.type "list") (rListQ m) := ⟨fun pins s σ H xs us Q I r h => by
  obtain ⟨F, A, ds, h1, R, P, h2, k⟩ := h
  unfold rListQ at h2
  split at h2
  · rename_i d
    obtain ⟨v, rfl, rv⟩ := reps1 h1
    split at h2
    · rename_i ys e
      obtain ⟨a, vs, rfl, h3, h4⟩ := seq_rep R rv e
      exact call_list_of pins s σ H _ us Q I r ⟨a, vs, rfl, h3, fun l hl => newL_ok R h2 h4 hl k⟩
    · cases e : entD A d with
      | none => rw [e] at h2; exact h2.elim
      | some kvs =>
        rw [e] at h2
        obtain ⟨a, ps, rfl, h3, h4⟩ := ent_rep I R rv e
        obtain ⟨u, rfl, ru⟩ := vals1 r
        obtain rfl : u = Value.ref a := ru
        obtain ⟨lo, hz, o, es, ep, e1, e2, e3, e4, e5⟩ := h3
        refine PySem.W.kdl_call (KdlSrc.rawDict (es := es) (ep := ep) lo) (I.ok.hd hc) ⟨o, e1, e2, e3⟩ (by rw [e4]; exact hz) fun h' tk acc' c' kp e it => ?_
        have rv2 : Vals (ps.map (·.1)) acc'.toList := by
          refine vals_of_at (by rw [List.length_map]; have q1 := it.1; have q2 : acc'.toList.length = acc'.size := by simp
                                omega) fun j x w g1 g2 => ?_
          obtain ⟨hj, hw⟩ := it.2 j w (by rw [← Array.getElem?_toList]; exact g2)
          rw [List.getElem?_map] at g1
          cases hp : ps[j]? with
          | none => rw [hp] at g1; cases g1
          | some p =>
            rw [hp] at g1
            cases g1
            rw [hw]
            exact (paired_at e5 hp (y := es[j]) (by rw [Array.getElem?_toList]; exact Array.getElem?_eq_getElem hj)).1
        have hzz : (ps.map (·.1)).length ≤ sizeLine := by rw [List.length_map]; exact hz
        have I2 : Inv X pins σ (upd H s.heap.objs.size (.lst (ps.map (·.1)))) { s with heap := h', toks := tk } := I.laid (t' := tk) kp (Nat.le_refl _) ⟨hzz, acc'.toList, c', rv2, by rw [Array.toArray_toList]; exact e⟩
        exact ⟨.ref s.heap.objs.size, _, I2, rfl, newL_ok R h2 h4.keys (I.hok.fresh (Nat.le_refl _)) k⟩
  · exact h2.elim⟩
def rTupQ : RNQ := fun xs A P => match xs with
  | [.tup ys] => P (.tup ys) A
  | [d] => okQ (lstD A d) fun ys => P (.tup ys) A
  | _ => False
theorem cq_tup : CQ X T (.type "tuple") rTupQ := ⟨fun pins s σ H xs us Q I r h => by
  obtain ⟨F, A, ds, h1, R, P, h2, k⟩ := h
  unfold rTupQ at h2
  split at h2
  · rename_i ys
    obtain ⟨v, rfl, rv⟩ := reps1 h1
    obtain ⟨u, rfl, ru⟩ := vals1 r
    refine rl_tuple pins s σ H _ u Q I ru ?_
    have rv0 := rv
    cases rv with
    | tup h3 h4 => exact .inr ⟨_, _, rfl, sqT_mono R.sub h3, k _ _ _ _ _ h2 R.go rv0⟩
  · rename_i d _
    obtain ⟨v, rfl, rv⟩ := reps1 h1
    cases e : lstD A d with
    | none => rw [e] at h2; exact h2.elim
    | some ys =>
      rw [e] at h2
      obtain ⟨a, vs, rfl, h3, h4⟩ := lst_rep R rv e
      obtain ⟨u, rfl, ru⟩ := vals1 r
      exact rl_tuple pins s σ H _ u Q I ru (.inl ⟨a, vs, rfl, h3, fun q hq => newT_ok R h2 h4 hq k⟩)
  · exact h2.elim⟩

/-! ### sorted -/
def leS (a b : Str) : Bool := !PySem.Spec.ltCps b.cps.toList a.cps.toList
def srtI (l : List Int) : List Int := l.mergeSort fun a b => decide (a ≤ b)
def srtS (l : List Str) : List Str := l.mergeSort leS
theorem srtI_uniq {l l' : List Int} (h : l'.Perm l) (h2 : l'.Pairwise (· ≤ ·)) : l' = srtI l := by
  refine List.Perm.eq_of_pairwise (le := (· ≤ ·)) (fun a b _ _ x y => Int.le_antisymm x y) h2 ?_ (h.trans (List.mergeSort_perm _ _).symm)
  have := List.pairwise_mergeSort (le := fun a b : Int => decide (a ≤ b)) (fun a b c x y => by simp at *; omega) (fun a b => by simp; omega) l
  exact this.imp fun h => by simpa using h
theorem leS_iff {a b : Str} : leS a b = true ↔ ¬ b.cps.toList < a.cps.toList := by
  unfold leS
  rw [PyProof.Rows.ltCps_eq]
  simp
theorem leS_trans (a b c : Str) (x : leS a b = true) (y : leS b c = true) : leS a c = true := by
  rw [leS_iff] at *
  exact fun z => by
    have h1 : a.cps.toList ≤ b.cps.toList := x
    have h2 : b.cps.toList ≤ c.cps.toList := y
    exact absurd z (List.not_lt.mpr (List.le_trans h1 h2))
theorem leS_total (a b : Str) : (leS a b || leS b a) = true := by
  rw [Bool.or_eq_true, leS_iff, leS_iff]
  have h : a.cps.toList ≤ b.cps.toList ∨ b.cps.toList ≤ a.cps.toList := List.le_total _ _
  exact h
theorem leS_anti {a b : Str} (x : leS a b = true) (y : leS b a = true) : a = b := by
  rw [leS_iff] at *
  have h : a.cps.toList = b.cps.toList := List.le_antisymm (show a.cps.toList ≤ b.cps.toList from x) (show b.cps.toList ≤ a.cps.toList from y)
  obtain ⟨⟨l⟩⟩ := a
  obtain ⟨⟨m⟩⟩ := b
  have h' : l = m := h
  rw [h']
theorem rising_pw : ∀ (p : Str) (l : List Str), PyProof.Rows.risingS p l = true → (p :: l).Pairwise (fun a b => leS a b = true)
  | p, [], _ => by simp
  | p, x :: r, h => by
    have h' : (!PySem.Spec.ltCps x.cps.toList p.cps.toList && PyProof.Rows.risingS x r) = true := h
    rw [Bool.and_eq_true] at h'
    have ih := rising_pw x r h'.2
    refine List.pairwise_cons.mpr ⟨fun y hy => ?_, ih⟩
    rcases List.mem_cons.mp hy with q | q
    · subst q; exact h'.1
    · exact leS_trans _ _ _ h'.1 ((List.pairwise_cons.mp ih).1 y q)
theorem srtS_uniq {l l' : List Str} (h : l'.Perm l) (h2 : PyProof.Rows.sortedS l' = true) : l' = srtS l := by
  refine List.Perm.eq_of_pairwise (le := fun a b => leS a b = true) (fun a b _ _ x y => leS_anti x y) ?_ ?_ (h.trans (List.mergeSort_perm _ _).symm)
  · cases l' with
    | nil => exact .nil
    | cons x r => exact rising_pw x r h2
  · exact List.pairwise_mergeSort leS_trans leS_total l
def keyInts : List (Key × D) → Option (List Int)
  | [] => some []
  | (.inl i, _) :: r => (keyInts r).map (i :: ·)
  | _ :: _ => none
def keyStrs : List (Key × D) → Option (List Str)
  | [] => some []
  | (.inr i, _) :: r => (keyStrs r).map (i :: ·)
  | _ :: _ => none
theorem keyInts_rep {K : PySem.W.Frag} {F : Hp} : ∀ {ds : List (Key × D)} {ps : List (Key × V)} {ns : List Int}, KvRep K F ps ds → keyInts ds = some ns → ps.map (·.1) = ns.map Sum.inl
  | [], _, ns, .nil, h => by simp only [keyInts, Option.some.injEq] at h; subst h; rfl
  | (.inl i, d) :: ds, _, ns, .cons r rr, h => by
    simp only [keyInts, Option.map_eq_some_iff] at h
    obtain ⟨ms, h1, rfl⟩ := h
    rw [List.map_cons, keyInts_rep rr h1] <;> rfl
  | (.inr i, d) :: ds, _, ns, .cons r rr, h => by simp [keyInts] at h
theorem keyStrs_rep {K : PySem.W.Frag} {F : Hp} : ∀ {ds : List (Key × D)} {ps : List (Key × V)} {ns : List Str}, KvRep K F ps ds → keyStrs ds = some ns → ps.map (·.1) = ns.map Sum.inr
  | [], _, ns, .nil, h => by simp only [keyStrs, Option.some.injEq] at h; subst h; rfl
  | (.inr i, d) :: ds, _, ns, .cons r rr, h => by
    simp only [keyStrs, Option.map_eq_some_iff] at h
    obtain ⟨ms, h1, rfl⟩ := h
    rw [List.map_cons, keyStrs_rep rr h1] <;> rfl
  | (.inl i, d) :: ds, _, ns, .cons r rr, h => by simp [keyStrs] at h
/-- sorted(x): a list of ints, of fewer than 64 texts; a dict with such keys -/
def rSortQ (m : Bool) : RNQ := fun xs A P => match xs with
  | [.dic kvs] => (∃ ns, keyInts kvs = some ns ∧ ns.length < 64 ∧ newL m ((srtI ns).map .int) A P) ∨ (∃ ns, keyStrs kvs = some ns ∧ ns.length < 64 ∧ newL m ((srtS ns).map .str) A P)
  | [d] => okQ (lstD A d) fun ys => (∃ ns, intsD ys = some ns ∧ newL m ((srtI ns).map .int) A P) ∨ (∃ ns, strsD ys = some ns ∧ ns.length < 64 ∧ newL m ((srtS ns).map .str) A P)
  | _ => False
theorem cq_sorted (m : Bool) (hc : X.calm = true) : CQ X T (.builtin "sorted") (rSortQ m) := ⟨fun pins s σ H xs us Q I r h => by
  obtain ⟨F, A, ds, h1, R, P, h2, k⟩ := h
  unfold rSortQ at h2
  split at h2
  · rename_i kvs
    obtain ⟨v, rfl, rv⟩ := reps1 h1
    cases rv with
    | dic h3 h4 =>
      rcases h2 with ⟨ns, e, hz, p⟩ | ⟨ns, e, hz, p⟩
      · refine call_sortedDI hc pins s σ H _ us Q I r ⟨_, _, ns, rfl, .inr ⟨_, R.sub _ _ h3⟩, keyInts_rep h4 e, hz, fun ys q hp hs hq => ?_⟩
        rw [srtI_uniq hp hs]
        exact newL_ok R p (reps_int _) hq k
      · refine call_sortedD hc pins s σ H _ us Q I r ⟨_, _, ns, rfl, .inr ⟨_, R.sub _ _ h3⟩, keyStrs_rep h4 e, hz, fun ys q hp hs hq => ?_⟩
        rw [srtS_uniq hp hs]
        exact newL_ok R p (reps_str _) hq k
  · rename_i d _
    obtain ⟨v, rfl, rv⟩ := reps1 h1
    cases e : lstD A d with
    | none => rw [e] at h2; exact h2.elim
    | some ys =>
      rw [e] at h2
      obtain ⟨a, vs, rfl, h3, h4⟩ := lst_rep R rv e
      rcases h2 with ⟨ns, e, p⟩ | ⟨ns, e, hz, p⟩
      · rw [ints_rep h4 e] at h3
        refine cr_sortedI pins s σ H _ us Q I r ⟨a, ns, rfl, h3, fun ys q hp hs hq => ?_⟩
        rw [srtI_uniq hp hs]
        exact newL_ok R p (reps_int _) hq k
      · rw [strs_rep h4 e] at h3
        refine cr_sortedS pins s σ H _ us Q I r ⟨a, ns, rfl, h3, hz, fun ys q hp hs hq => ?_⟩
        rw [srtS_uniq hp hs]
        exact newL_ok R p (reps_str _) hq k
  · exact h2.elim⟩

end
end Qd


set_option Elab.async false
set_option linter.all false
set_option maxRecDepth 100000
set_option maxHeartbeats 4000000
/-! Second layer, part F: dicts over data. -/
namespace Qd
open PySem L2

/-! ### tables of pairs -/
section
variable {κ : Type} [DecidableEq κ] {α : Type}
def getA (kvs : List (κ × α)) (k : κ) : Option α := (kvs.find? fun kv => decide (kv.1 = k)).map (·.2)
def hasA (kvs : List (κ × α)) (k : κ) : Bool := kvs.any fun kv => decide (kv.1 = k)
def putA (kvs : List (κ × α)) (k : κ) (v : α) : List (κ × α) := if hasA kvs k = true then kvs.map (fun kv => if kv.1 = k then (kv.1, v) else kv) else kvs ++ [(k, v)]
def mergeA (kvs more : List (κ × α)) : List (κ × α) := more.foldl (fun acc kv => putA acc kv.1 kv.2) kvs
theorem hasA_get (kvs : List (κ × α)) (k : κ) : (getA kvs k).isSome = hasA kvs k := by
  unfold getA hasA
  rw [Option.isSome_map]
  induction kvs with
  | nil => rfl
  | cons a r ih =>
    rw [List.find?_cons, List.any_cons]
    cases decide (a.1 = k) <;> simp [ih]
end
/-- keys alike, values related -/
inductive RepA {κ : Type} (K : PySem.W.Frag) (F : Hp) : List (κ × V) → List (κ × D) → Prop
  | nil : RepA K F [] []
  | cons {n : κ} {v : V} {d : D} {ps : List (κ × V)} {ds : List (κ × D)} : Rep K F v d → RepA K F ps ds → RepA K F ((n, v) :: ps) ((n, d) :: ds)
theorem KvRep.a {K : PySem.W.Frag} {F : Hp} : ∀ {ps : List (Key × V)} {ds : List (Key × D)}, KvRep K F ps ds → RepA K F ps ds
  | _, _, .nil => .nil
  | _, _, .cons r t => .cons r (KvRep.a t)
theorem RepA.kv {K : PySem.W.Frag} {F : Hp} : ∀ {ps : List (Key × V)} {ds : List (Key × D)}, RepA K F ps ds → KvRep K F ps ds
  | _, _, .nil => .nil
  | _, _, .cons r t => .cons r (RepA.kv t)
theorem KtRep.a {K : PySem.W.Frag} {F : Hp} : ∀ {ps : List (List Key × V)} {ds : List (List Key × D)}, KtRep K F ps ds → RepA K F ps ds
  | _, _, .nil => .nil
  | _, _, .cons r t => .cons r (KtRep.a t)
theorem RepA.kt {K : PySem.W.Frag} {F : Hp} : ∀ {ps : List (List Key × V)} {ds : List (List Key × D)}, RepA K F ps ds → KtRep K F ps ds
  | _, _, .nil => .nil
  | _, _, .cons r t => .cons r (RepA.kt t)
section
variable {κ : Type} [DecidableEq κ] {K : PySem.W.Frag} {F : Hp}
theorem RepA.len : ∀ {ps : List (κ × V)} {ds : List (κ × D)}, RepA K F ps ds → ps.length = ds.length
  | _, _, .nil => rfl
  | _, _, .cons _ t => by rw [List.length_cons, List.length_cons, RepA.len t]
theorem RepA.any {k : κ} : ∀ {ps : List (κ × V)} {ds : List (κ × D)}, RepA K F ps ds → hasA ps k = hasA ds k
  | _, _, .nil => rfl
  | _, _, .cons _ t => by
    have ih := RepA.any (k := k) t
    unfold hasA at *
    rw [List.any_cons, List.any_cons, ih]
theorem RepA.app {ps qs : List (κ × V)} {ds es : List (κ × D)} (h : RepA K F ps ds) (g : RepA K F qs es) : RepA K F (ps ++ qs) (ds ++ es) := by
  induction h with
  | nil => exact g
  | cons r _ ih => exact .cons r ih
theorem RepA.put {k : κ} {v : V} {d : D} (r : Rep K F v d) {ps : List (κ × V)} {ds : List (κ × D)} (h : RepA K F ps ds) : RepA K F (putK ps k v) (putA ds k d) := by
  have e : (ps.any fun kv => decide (kv.1 = k)) = hasA ds k := h.any
  unfold putK putA
  rw [e]
  split
  · clear e
    induction h with
    | nil => exact .nil
    | @cons n w c ps ds q t ih =>
      have e2 : hasA ((n, c) :: ds) k = true := by assumption
      rw [List.map_cons, List.map_cons]
      have go : ∀ {ps : List (κ × V)} {ds : List (κ × D)}, RepA K F ps ds → RepA K F (ps.map fun kv => if kv.1 = k then (kv.1, v) else kv) (ds.map fun kv => if kv.1 = k then (kv.1, d) else kv) := by
        intro ps ds h
        induction h with
        | nil => exact .nil
        | @cons n w c ps ds q t ih =>
          rw [List.map_cons, List.map_cons]
          by_cases hn : n = k
          · simp only [hn, if_true]; exact .cons r ih
          · simp only [hn, if_false]; exact .cons q ih
      exact go (.cons q t)
  · exact h.app (.cons r .nil)
theorem RepA.get {k : κ} {d : D} : ∀ {ps : List (κ × V)} {ds : List (κ × D)}, RepA K F ps ds → getA ds k = some d → ∃ v, valV ps k = some v ∧ Rep K F v d
  | _, _, .nil, h => by simp [getA] at h
  | _, _, @RepA.cons _ _ _ n w c ps ds q t, h => by
    by_cases hn : n = k
    · have e : getA ((n, c) :: ds) k = some c := by simp [getA, hn]
      rw [e] at h; cases h
      exact ⟨w, valV_pos (p := (n, w)) hn, q⟩
    · have e : getA ((n, c) :: ds) k = getA ds k := by simp [getA, List.find?_cons, hn]
      rw [e] at h
      obtain ⟨v, h1, h2⟩ := RepA.get t h
      exact ⟨v, (valV_neg (p := (n, w)) hn).trans h1, h2⟩
theorem RepA.has {k : κ} : ∀ {ps : List (κ × V)} {ds : List (κ × D)}, RepA K F ps ds → (valV ps k).isSome = hasA ds k
  | _, _, .nil => rfl
  | _, _, @RepA.cons _ _ _ n w c ps ds q t => by
    by_cases hn : n = k
    · rw [valV_pos (p := (n, w)) hn]; simp [hasA, hn]
    · rw [valV_neg (p := (n, w)) hn, RepA.has t]; simp [hasA, hn]
theorem RepA.merge {more : List (κ × V)} {mores : List (κ × D)} (g : RepA K F more mores) : ∀ {ps : List (κ × V)} {ds : List (κ × D)}, RepA K F ps ds → RepA K F (more.foldl (fun acc kv => putK acc kv.1 kv.2) ps) (mergeA ds mores) := by
  induction g with
  | nil => exact fun h => h
  | cons r t ih => exact fun h => ih (h.put r)
end

/-! ### keys -/
def keyD : D → Option Key
  | .int i => some (.inl i)
  | .str x => some (.inr x)
  | _ => none
theorem keyD_rep {K : PySem.W.Frag} {F : Hp} {v : V} {d : D} {k : Key} (r : Rep K F v d) (h : keyD d = some k) : v = kV k := by
  cases r with
  | int i => simp only [keyD, Option.some.injEq] at h; subst h; rfl
  | str i => simp only [keyD, Option.some.injEq] at h; subst h; rfl
  | _ => simp [keyD] at h
def dicD (A : MH) : D → Option (List (Key × D))
  | .dic kvs => some kvs
  | .mut a => match A a with | some (.dic kvs) => some kvs | _ => none
  | _ => none
theorem dic_rep {K : PySem.W.Frag} {T : Tz} {F H : Hp} {A : MH} {v : V} {d : D} {kvs : List (Key × D)} (R : RS K T F A H) (r : Rep K F v d) (h : dicD A d = some kvs) : ∃ a ps, v = .ref a ∧ Rd H a (.dK ps) ∧ RepA K F ps kvs := by
  cases r with
  | dic h1 h2 => simp only [dicD, Option.some.injEq] at h; subst h; exact ⟨_, _, rfl, .inr ⟨_, R.sub _ _ h1⟩, h2.a⟩
  | «mut» a =>
    simp only [dicD] at h
    split at h
    · rename_i xs e
      simp only [Option.some.injEq] at h; subst h
      obtain ⟨vs, h1, h2⟩ := (R.mem a _ e).2
      exact ⟨_, _, rfl, .inl h1, h2.a⟩
    · cases h
  | _ => simp [dicD] at h
section
variable {X : Cx} {T : Tz} {e a b c o i : Expr} {es : List Expr} {te ta tb tc td ty : TQ} {t : TAQ} {pos : Pos} {r : RNQ}
/-- d[k] -/
def qDGet : R2Q := fun x y A P => okQ (dicD A x) fun kvs => okQ (keyD y) fun k => okQ (getA kvs k) fun d => P d A
theorem pq_dget (hu : X.A.units + 1 < cLine) (ho : PQ X T o td) (hi : PQ X T i ty) (hs : NoSl i) : PQ X T (.Subscript o i pos) (qOp qDGet td ty) := ⟨(pe_dget hu ho.pe hi.pe hs).wk fun σ H Q h => by
  obtain ⟨F, A, s, hs, hR, P, ht, k⟩ := h
  refine ⟨F, A, s, hs, hR, _, ht, fun x A1 xv H1 F1 p1 g1 r1 => ?_⟩
  refine ⟨F1, A1, s, hs.mono g1.ext, g1.rs, _, p1, fun y A2 yv H2 F2 p2 g2 r2 => ?_⟩
  unfold qDGet at p2
  cases e1 : dicD A2 x with
  | none => rw [e1] at p2; exact p2.elim
  | some kvs =>
    rw [e1] at p2
    cases e2 : keyD y with
    | none => rw [e2] at p2; exact p2.elim
    | some kk =>
      rw [e2] at p2
      simp only [okQ_some] at p2
      cases e3 : getA kvs kk with
      | none => rw [e3] at p2; exact p2.elim
      | some d =>
        rw [e3] at p2
        obtain ⟨a, ps, rfl, h3, h4⟩ := dic_rep g2.rs (r1.mono g2.ext) e1
        obtain ⟨v, h5, h6⟩ := h4.get e3
        exact ⟨a, v, rfl, .inl ⟨ps, kk, h3, keyD_rep r2 e2, h5.symm⟩, k _ _ _ _ _ p2 (g1.trans g2) h6⟩⟩
/-- k in d -/
def qDIn (ty td : TQ) : TQ := fun s A P => ty s A fun y A1 => td s A1 fun x A2 => okQ (dicD A2 x) fun kvs => okQ (keyD y) fun k => P (.bl (hasA kvs k)) A2
theorem lift_din {K : PySem.W.Frag} {σ : St} {H : Hp} {Q : VK} (h : lift K T (qDIn ty td) σ H Q) : tDIn (lift K T ty) (lift K T td) σ H Q := by
  obtain ⟨F, A, s, hs, hR, P, ht, k⟩ := h
  refine ⟨F, A, s, hs, hR, _, ht, fun y A1 yv H1 F1 p1 g1 r1 => ?_⟩
  refine ⟨F1, A1, s, hs.mono g1.ext, g1.rs, _, p1, fun x A2 xv H2 F2 p2 g2 r2 => ?_⟩
  cases e1 : dicD A2 x with
  | none => rw [e1] at p2; exact p2.elim
  | some kvs =>
    rw [e1] at p2
    cases e2 : keyD y with
    | none => rw [e2] at p2; exact p2.elim
    | some kk =>
      rw [e2] at p2
      obtain ⟨a, ps, rfl, h3, h4⟩ := dic_rep g2.rs r2 e1
      refine ⟨a, _, rfl, .inl ⟨ps, kk, h3, keyD_rep (r1.mono g2.ext) e2, rfl⟩, ?_⟩
      rw [h4.has]
      exact k _ _ _ _ _ p2 (g1.trans g2) (.bl _)

/-! ### d.items(), dict(x) -/
/-- a new dict: it may change, or is frozen -/
def newD (m : Bool) (kvs : List (Key × D)) (A : MH) (P : KQ) : Prop := if m = true then ∀ a, A a = none → P (.mut a) (A.set a (.dic kvs)) else P (.dic kvs) A
theorem newDm_ok {K : PySem.W.Frag} {kvs : List (Key × D)} {A : MH} {P : KQ} {F : Hp} {H : Hp} {ps : List (Key × V)} {p : Addr} {Q : VK} (R : RS K T F A H) (h : newD true kvs A P) (r : RepA K F ps kvs) (hp : H p = none)
    (k : ∀ d A' v H' F', P d A' → Go K T F A H F' A' H' → Rep K F' v d → Q v H') : Q (.ref p) (upd H p (.dK ps)) := by
  unfold newD at h
  rw [if_pos rfl] at h
  exact k _ _ _ _ F (h p (R.free hp).2) (R.goM hp ⟨ps, upd_same, r.kv⟩) (.mut p)
/-- a dict that may change, frozen from here on -/
def qFzD (t : TQ) : TQ := fun s A P => t s A fun d A1 => match d with
  | .mut a => match A1 a with
    | some (.dic kvs) => P (.dic kvs) (A1.del a)
    | _ => False
  | _ => False
theorem pq_fzD (h : PQ X T e te) : PQ X T e (qFzD te) := ⟨h.pe.ghost fun pins σ H Q h => by
  obtain ⟨F, A, s, hs, hR, P, ht, k⟩ := h
  refine ⟨F, A, s, hs, hR, _, ht, fun d A1 v H1 F1 p1 g1 r1 s1 I1 => ?_⟩
  split at p1
  · rename_i a
    split at p1
    · rename_i kvs hA
      cases r1
      obtain ⟨ps, hH, rv⟩ := (g1.rs.mem a _ hA).2
      obtain ⟨od, I2⟩ := I1.lock hH trivial
      have g2 := g1.rs.goFzD od hA hH
      exact ⟨_, I2, k _ _ _ _ _ p1 (g1.trans g2) (.dic upd_same (rv.mono g2.ext))⟩
    · exact p1.elim
  · exact p1.elim⟩
/-- the reading where the dict is frozen at once -/
theorem qFzD_new {m : TQ} {kvs : List (Key × D)} {s : SQ} {A : MH} {P : KQ} : newD false kvs A P → newD true kvs A (fun d A1 => match d with
  | .mut a => match A1 a with
    | some (.dic kvs) => P (.dic kvs) (A1.del a)
    | _ => False
  | _ => False) := by
  intro h
  unfold newD at *
  rw [if_neg Bool.false_ne_true] at h
  rw [if_pos rfl]
  intro a ha
  simp only [MH.set_same, MH.del_set ha]
  exact h
end
/-- pairs (key, value) -/
def pairD : D → Option (Key × D)
  | .tup [k, v] => (keyD k).map fun k => (k, v)
  | _ => none
def pairsD : List D → Option (List (Key × D))
  | [] => some []
  | d :: r => match pairD d, pairsD r with | some p, some ps => some (p :: ps) | _, _ => none
theorem pairs_rep {K : PySem.W.Frag} {F H : Hp} (e : Same F H) : ∀ {ds : List D} {vs : List V} {kvs : List (Key × D)}, Reps K F vs ds → pairsD ds = some kvs →
    ∃ (ps : List Addr) (ws : List (Key × V)), vs = ps.map V.ref ∧ Paired (fun p (kv : Key × V) => SqT K H p [kV kv.1, kv.2]) ps ws ∧ RepA K F ws kvs
  | [], _, kvs, .nil, h => by simp only [pairsD, Option.some.injEq] at h; subst h; exact ⟨[], [], rfl, .nil, .nil⟩
  | d :: ds, _, kvs, .cons r rr, h => by
    simp only [pairsD] at h
    split at h
    · rename_i p qs h1 h2
      simp only [Option.some.injEq] at h; subst h
      obtain ⟨ps, ws, rfl, h4, h5⟩ := pairs_rep e rr h2
      unfold pairD at h1
      split at h1
      · rename_i k v
        simp only [Option.map_eq_some_iff] at h1
        obtain ⟨kk, h6, rfl⟩ := h1
        cases r with
        | @tup a vs _ hs rs =>
          obtain ⟨v1, v2, rfl, r1, r2⟩ := reps2 rs
          refine ⟨a :: ps, (kk, v2) :: ws, rfl, .cons ?_ h4, .cons r2 h5⟩
          rw [keyD_rep r1 h6] at hs
          exact sqT_mono e hs
      · cases h1
    · cases h
/-- dict(a list of pairs), dict(a dict): a new one that may change -/
def rDictQ : RNQ := fun xs A P => match xs with
  | [d] => match dicD A d with
    | some kvs => newD true kvs A P
    | none => okQ ((lstD A d).bind pairsD) fun kvs => newD true (mergeA [] kvs) A P
  | _ => False
section
variable {X : Cx} {T : Tz}
theorem cq_dict (hc : X.calm = true) : CQ X T (.type "dict") rDictQ := ⟨fun pins s σ H xs us Q I r h => by
  obtain ⟨F, A, ds, h1, R, P, h2, k⟩ := h
  unfold rDictQ at h2
  split at h2
  · rename_i d
    obtain ⟨v, rfl, rv⟩ := reps1 h1
    split at h2
    · rename_i kvs e
      obtain ⟨a, ps, rfl, h3, h4⟩ := dic_rep R rv e
      exact call_dictD pins s σ H _ us Q I r ⟨a, ps, rfl, h3, fun p hp => newDm_ok R h2 h4 hp k⟩
    · cases e : lstD A d with
      | none => rw [e] at h2; exact h2.elim
      | some ys =>
        rw [e, Option.bind_some] at h2
        cases e2 : pairsD ys with
        | none => rw [e2] at h2; exact h2.elim
        | some kvs =>
          rw [e2] at h2
          obtain ⟨a, vs, rfl, h3, h4⟩ := lst_rep R rv e
          obtain ⟨ps, ws, rfl, h5, h6⟩ := pairs_rep R.sub h4 e2
          exact call_dictP hc pins s σ H _ us Q I r ⟨a, ps, ws, rfl, h3, h5, fun p hp => newDm_ok R h2 (h6.merge .nil) hp k⟩
  · exact h2.elim⟩
end
end Qd


set_option Elab.async false
set_option linter.all false
set_option maxRecDepth 100000
set_option maxHeartbeats 4000000
/-! Second layer, part G: what is walked; methods; targets. -/
namespace Qd
open PySem L2

/-! ### what is walked -/
section
variable {K : PySem.W.Frag} {T : Tz}
theorem Src.list {a : Addr} {vs : List V} {ds : List D} {F0 : Hp} (h : SqL K F0 a vs) (r : Reps K F0 vs ds) : Src K T (Itl K a) F0 ds :=
  ⟨fun i F A H hi R e => by
    have hs := (e.trans R.sub).seq h
    obtain ⟨v, h1, _⟩ := r.get (i := i) (List.getElem?_eq_getElem hi)
    exact ⟨vs, v, hs, h1⟩,
  fun i F A H hi R e => ⟨vs, (e.trans R.sub).seq h, by rw [r.length]; exact hi⟩,
  fun i F A H x H' hl y R e => by
    obtain ⟨rfl, y2⟩ := y
    have hx := y2 vs ((e.trans R.sub).seq h)
    obtain ⟨d, h1, h2⟩ := r.getV hx
    exact ⟨d, F, h1, R.go, h2.mono e⟩⟩
theorem Src.tup {a : Addr} {vs : List V} {ds : List D} {F0 : Hp} (h : SqT K F0 a vs) (r : Reps K F0 vs ds) : Src K T (Itt K a) F0 ds :=
  ⟨fun i F A H hi R e => by
    have hs := sqT_mono (e.trans R.sub) h
    obtain ⟨v, h1, _⟩ := r.get (i := i) (List.getElem?_eq_getElem hi)
    exact ⟨vs, v, hs, h1⟩,
  fun i F A H hi R e => ⟨vs, sqT_mono (e.trans R.sub) h, by rw [r.length]; exact hi⟩,
  fun i F A H x H' hl y R e => by
    obtain ⟨rfl, y2⟩ := y
    have hx := y2 vs (sqT_mono (e.trans R.sub) h)
    obtain ⟨d, h1, h2⟩ := r.getV hx
    exact ⟨d, F, h1, R.go, h2.mono e⟩⟩
def rngD (lo : Int) (n : Nat) : List D := (List.range n).map fun i => .int (lo + (i : Nat))
theorem Src.rng {lo : Int} {n : Nat} {F0 : Hp} : Src K T (Itr lo n) F0 (rngD lo n) :=
  ⟨fun i F A H hi R e => by show i < n; simpa [rngD] using hi, fun i F A H hi R e => by show n ≤ i; simpa [rngD] using hi,
  fun i F A H x H' hl y R e => by
    obtain ⟨rfl, rfl⟩ := y
    have hi : i < n := by simpa [rngD] using hl
    exact ⟨.int (lo + i), F, by simp [rngD, hi], R.go, .int _⟩⟩
def sgnD (x : Str) : List D := x.cps.toList.map fun c => .str ⟨#[c]⟩
theorem Src.str {x : Str} {F0 : Hp} : Src K T (Its x) F0 (sgnD x) :=
  ⟨fun i F A H hi R e => by show i < x.cps.size; simpa [sgnD] using hi, fun i F A H hi R e => by show x.cps.size ≤ i; simpa [sgnD] using hi,
  fun i F A H v H' hl y R e => by
    obtain ⟨rfl, c, hc, rfl⟩ := y
    refine ⟨.str ⟨#[c]⟩, F, ?_, R.go, .str _⟩
    simp [sgnD, hc]⟩
theorem Src.keys {a : Addr} {o : Obj} {ps : List (Key × V)} {kvs : List (Key × D)} {F0 : Hp} (h : F0 a = some (.frz o (.dK ps))) (r : KvRep K F0 ps kvs) : Src K T (Itk a o ps) F0 (keysD kvs) := by
  have hl : ps.length = kvs.length := r.a.len
  refine ⟨fun i F A H hi R e => ⟨R.sub _ _ (e _ _ h), by rw [hl]; simpa [keysD] using hi⟩, fun i F A H hi R e => ⟨R.sub _ _ (e _ _ h), by rw [hl]; simpa [keysD] using hi⟩, fun i F A H x H' hl y R e => ?_⟩
  obtain ⟨rfl, k, v, h1, rfl⟩ := y
  have hk := KvRep.k r
  obtain ⟨d, h2, h3⟩ := hk.keys.getV (i := i) (v := kV k) (by rw [List.map_map, List.getElem?_map, h1] <;> rfl)
  exact ⟨d, F, by rw [List.map_map] at h2; exact h2, R.go, h3.mono e⟩
end
section
variable {X : Cx} {T : Tz} {tg e a b : Expr} {te ta tb : TQ} {t : TAQ} {pos p : Pos}
/-- the items of a datum, walked -/
def itD : D → Option (List D)
  | .lst xs => some xs | .frl xs => some xs | .tup xs => some xs
  | .str x => some (sgnD x)
  | .dic kvs => some (keysD kvs)
  | _ => none
def qIt (te : TQ) : TAQ := fun s A P => te s A fun d A1 => okQ (itD d) fun xs => P xs A1
theorem lift_one {K : PySem.W.Frag} {ta : TQ} {σ : St} {H : Hp} {R : It → Hp → Prop} {u : TAQ} (h : liftI K T u σ H R) (hu : ∀ s A P, u s A P → ∃ K : D → MH → Prop, ta s A K ∧ ∀ d A1, K d A1 → ∃ ds, P ds A1 ∧ itD d = some ds) : lift K T ta σ H fun v H1 => ∃ F A ds d, RS K T F A H1 ∧ Rep K F v d ∧ itD d = some ds ∧ ∀ J, Src K T J F ds → R J H1 := by
  obtain ⟨F, A, s, hs, hR, P, ht, k⟩ := h
  obtain ⟨Kk, h1, h2⟩ := hu s A P ht
  refine ⟨F, A, s, hs, hR, Kk, h1, fun d A1 v H1 F1 p1 g1 r1 => ?_⟩
  obtain ⟨ds, h3, h4⟩ := h2 d A1 p1
  exact ⟨F1, A1, ds, d, g1.rs, r1, h4, fun J hJ => k _ _ _ _ _ h3 g1 hJ⟩
theorem walk_it {pins : List (Addr × Obj)} {σ : St} {H F : Hp} {A : MH} {s : Shared} {R : It → Hp → Prop} {v : V} {u : Value} {d : D} {ds : List D} (I : Inv X pins σ H s) (RR : RS X.K T F A H) (rv : Rep X.K F v d) (ru : RelV v u) (hd : itD d = some ds) (hR : ∀ J, Src X.K T J F ds → R J H) :
    wpAny (model X.prog X.w) X.A (pyIter u) (PIE X pins σ tg R) X.xe s := by
  have viaL : ∀ {a : Addr} {vs : List V}, u = .ref a → SqL X.K F a vs → Reps X.K F vs ds → wpAny (model X.prog X.w) X.A (pyIter u) (PIE X pins σ tg R) X.xe s := fun {a vs} e h1 h2 => by
    subst e
    obtain ⟨its, _, pl, _⟩ := I.list (RR.sub.seq h1)
    refine wpAny_pyIter_list pl.isList (pi_one (tk := s.toks) I _ (turn_list a _) ⟨_, Heap.get?_push_size _ rfl, rfl, rfl⟩ (hR _ (Src.list h1 h2)))
  cases rv with
  | lst h1 h2 =>
    simp only [itD, Option.some.injEq] at hd; subst hd
    exact viaL (show u = Value.ref _ from ru) (.of h1) h2
  | frl h1 h2 =>
    simp only [itD, Option.some.injEq] at hd; subst hd
    exact viaL (show u = Value.ref _ from ru) h1 h2
  | @tup a vs _ h1 h2 =>
    simp only [itD, Option.some.injEq] at hd; subst hd
    obtain rfl : u = Value.ref a := ru
    obtain ⟨its, _, pl, _⟩ := I.tuple (sqT_mono RR.sub h1)
    exact wpAny_pyIter_tuple (show s.heap.IsTuple a its.toArray from pl) (pi_one (tk := s.toks) I _ (turn_tuple a _) ⟨_, Heap.get?_push_size _ rfl, rfl, rfl⟩ (hR _ (Src.tup h1 h2)))
  | str x =>
    simp only [itD, Option.some.injEq] at hd; subst hd
    obtain ⟨t, rfl⟩ := ru
    cases ha : x.cps.all (· < 128)
    · exact wpAny_pyIter_wide ha (pi_one (tk := s.toks) I _ (turn_str _ x t "str_iterator" (.inr rfl)) ⟨_, Heap.get?_push_size _ rfl, rfl, rfl⟩ (hR _ Src.str))
    · exact wpAny_pyIter_ascii ha (pi_one (tk := s.toks) I _ (turn_str _ x t "str_ascii_iterator" (.inl rfl)) ⟨_, Heap.get?_push_size _ rfl, rfl, rfl⟩ (hR _ Src.str))
  | @dic a o ps _ h1 h2 =>
    simp only [itD, Option.some.injEq] at hd; subst hd
    obtain rfl : u = Value.ref a := ru
    obtain ⟨hs, hgd, hx, es, ep, vs, hdt, hsz, kv, hm⟩ := I.frzK (RR.sub _ _ h1)
    refine iter_keys hs hgd hx hdt (pi_one (tk := s.toks) I _ (turn_keys _ hdt) ⟨_, Heap.get?_push_size _ rfl, rfl, ?_⟩ (hR _ (Src.keys h1 h2)))
    rw [hsz] <;> rfl
  | _ => simp [itD] at hd
theorem piq_it (he : PQ X T e te) : PIQ X T tg e (qIt te) := ⟨⟨fun pins s σ H R I h => by
  have h' := lift_one (ta := te) h fun s A P ht => ⟨_, ht, fun d A1 p1 => by
    cases e1 : itD d with
    | none => rw [e1] at p1; exact p1.elim
    | some ds => rw [e1] at p1; exact ⟨ds, p1, rfl⟩⟩
  refine thn (he.pe.run pins s σ H _ I h') fun u s1 ⟨v, H1, I1, ru, F, A, ds, d, RR, rv, hd, hR⟩ => ?_
  exact walk_it I1 RR rv ru hd hR⟩⟩
end
end Qd


set_option Elab.async false
set_option linter.all false
set_option maxRecDepth 100000
set_option maxHeartbeats 4000000
/-! Second layer, part H: list(zip(..)), list(d.items()): lists of new pairs. -/
namespace Qd
open PySem L2 PyProof.Rows

namespace Grow
section
variable {prog : Program} {w : World}
/-- the iterator at I feeds the list at D: W i vs h, after i items, vs told -/
structure Feed (prog : Program) (w : World) (A : Around) (I D : Addr) (n : Nat) (W : Nat → List Value → Heap → Prop) (Z : List Value → Heap → Prop) : Prop where
  stay : ∀ i vs h h', W i vs h → (∀ b o, b ≠ D → h.get? b = some o → h'.get? b = some o) → h.objs.size ≤ h'.objs.size → W i vs h'
  item : ∀ (s : Shared) (i : Nat) (vs : List Value) (o : Obj) (Q : Option Value → Shared → Prop) (E : Value → Shared → Prop), i < n → W i vs s.heap → s.heap.get? D = some o →
    (∀ v h' tk, W (i + 1) (vs ++ [v]) h' → h'.get? D = some o → Q (some v) { s with heap := h', toks := tk }) → wpAny (model prog w) A (pyNext (.ref I)) Q E s
  done : ∀ (s : Shared) (vs : List Value) (o : Obj) (Q : Option Value → Shared → Prop) (E : Value → Shared → Prop), W n vs s.heap → s.heap.get? D = some o →
    (∀ h' tk, Z vs h' → h'.get? D = some o → Q none { s with heap := h', toks := tk }) → wpAny (model prog w) A (pyNext (.ref I)) Q E s
abbrev lstO (vs : List Value) (c : Nat) : Obj := { cls := .type "list", dict := none, data := .seq vs.toArray c, slots := #[] }
variable {A : Around} {s : Shared} {I D : Addr} {n : Nat} {W : Nat → List Value → Heap → Prop} {Z : List Value → Heap → Prop} {R : Result → Shared → Prop}
theorem runs (F : Feed prog w A.in1 I D n W Z) (hn : n ≤ sizeLine) (res : Value) (hR : ∀ h' tk vs c, Z vs h' → vs.length = n → h'.get? D = some (lstO vs c) → R (.ok (.ret res)) { s with heap := h', toks := tk }) :
    ∀ (k : Nat) {i : Nat} {vs : List Value} {h : Heap} {tk c : Nat}, i + k = n → vs.length = i → W i vs h → h.get? D = some (lstO vs c) →
      codeAny (model prog w) A (.builtin "list.extend.loop" ⟨[.ref D, .ref I, res], []⟩) R { s with heap := h, toks := tk }
  | 0, i, vs, h, tk, c, hk, hl, hw, hd => by
    obtain rfl : i = n := hk
    refine codeAny_builtin PySem.F.entry_extend_loop ?_
    rw [Around.under_plainId PySem.F.plain_extend_loop _]
    exact wpAny_bind (F.done { s with heap := h, toks := tk } vs _ _ _ hw hd fun h' tk' hw' hd' => wpAny_pure (hR h' tk' vs c hw' hl hd'))
  | k + 1, i, vs, h, tk, c, hk, hl, hw, hd => by
    refine codeAny_builtin PySem.F.entry_extend_loop ?_
    rw [Around.under_plainId PySem.F.plain_extend_loop _]
    refine wpAny_bind (F.item { s with heap := h, toks := tk } i vs _ _ _ (by omega) hw hd fun v h' tk' hw' hd' => ?_)
    show wpAny _ A.in1 (updateSeq D (·.push v) >>= _) _ _ _
    have hsz : vs.toArray.size = i := by simp [hl]
    have new : (h'.update D (Obj.mapSeq (·.push v))).get? D = some (lstO (vs ++ [v]) (c)) ∨ ∃ c', (h'.update D (Obj.mapSeq (·.push v))).get? D = some (lstO (vs ++ [v]) c') := .inr ⟨_, by
      have := Heap.get?_update_self (Obj.mapSeq (·.push v)) hd' rfl
      rw [this]
      simp [Obj.mapSeq, lstO] <;> rfl⟩
    obtain ⟨c', new⟩ : ∃ c', (h'.update D (Obj.mapSeq (·.push v))).get? D = some (lstO (vs ++ [v]) c') := new.elim (fun z => ⟨_, z⟩) id
    refine wpAny_bind (wpAny_updateSeq hd' rfl (wpAny_pure ⟨plainId_quiet PySem.F.plain_extend_loop _, ?_⟩) (by rw [hsz]; omega) (by show (vs.toArray.push v).size ≤ sizeLine + 1; rw [Array.size_push, hsz]; omega))
    refine runs F hn res hR k (by omega) (by simp [hl]) (F.stay _ _ h' _ hw' (fun b o hb e => (Heap.get?_update_other _ _ (Ne.symm hb)).trans e) ?_) new
    rw [Heap.size_update]
    exact Nat.le_refl _
/-- what is handed to list(..): at r, of type T; the walking's own state is W -/
structure Given (prog : Program) (w : World) (T : String) (r I D : Addr) (n : Nat) (W : Nat → List Value → Heap → Prop) (Z : List Value → Heap → Prop) (h0 : Heap) : Prop where
  notL : (Value.type T == Value.type "list") = false
  notT : (Value.type T == Value.type "tuple") = false
  ne : D ≠ r
  type : ∀ s : Shared, (∀ b o, h0.get? b = some o → s.heap.get? b = some o) → s.TypeIs (.ref r) T
  hint : ∀ (A : Around) (E : Value → Shared → Prop) (s : Shared) (Q : Bool → Shared → Prop), (∀ b o, h0.get? b = some o → s.heap.get? b = some o) → (∀ b, Q b s) → wpAny (model prog w) A (Builtin.List.listLengthHint (.ref r)) Q E s
  iter : ∀ (A : Around) (E : Value → Shared → Prop) (s : Shared) (o : Obj) (Q : Value → Shared → Prop), (∀ b o, h0.get? b = some o → s.heap.get? b = some o) → s.heap.objs.size = D + 1 → s.heap.get? D = some o →
    (∀ h', W 0 [] h' → h'.get? D = some o → (∀ b o, h0.get? b = some o → h'.get? b = some o) → Q (.ref I) { s with heap := h' }) → wpAny (model prog w) A (pyIter (.ref r)) Q E s
  feed : ∀ A : Around, A.handled = none → Feed prog w A I D n W Z
theorem extnd {T : String} {r : Addr} {h0 : Heap} (G : Given prog w T r I D n W Z h0) (hh : A.handled = none) (hn : n ≤ sizeLine) (hD : s.heap.objs.size = D + 1) (k0 : ∀ b o, h0.get? b = some o → s.heap.get? b = some o) (n0 : h0.get? D = none) (res : Value) (c : Nat) (hS : s.heap.get? D = some (lstO [] c))
    (hR : ∀ h' tk vs c, Z vs h' → vs.length = n → h'.get? D = some (lstO vs c) → R (.ok (.ret res)) { s with heap := h', toks := tk }) :
    wpAny (model prog w) A.in1 (Builtin.List.listExtendWith (.ref D) (.ref r) res)
      (fun fin s' => match fin with | .done f => R (.ok f) s' | .again c' => c'.quiet = true ∧ codeAny (model prog w) A c' R s') (fun e s' => R (.error e) s') s := by
  have F := G.feed A.in1 hh
  have go : ∀ (h : Heap) (tk c1 : Nat), W 0 [] h → h.get? D = some (lstO [] c1) → codeAny (model prog w) A (.builtin "list.extend.loop" ⟨[.ref D, .ref I, res], []⟩) R { s with heap := h, toks := tk } := fun h tk c1 w0 hd =>
    runs F hn res hR n (Nat.zero_add n) rfl w0 hd
  have nb : ∀ b o, h0.get? b = some o → b ≠ D := fun b o e z => by rw [z, n0] at e; cases e
  have same : (Builtin.List.listSameRef (.ref D) (.ref r)) = false := by simp [Builtin.List.listSameRef, G.ne]
  unfold Builtin.List.listExtendWith
  refine wpAny_bind (wpAny_typeOf (T := T) (G.type s k0) ?_)
  simp only [same, G.notL, G.notT, Bool.or_false, Bool.false_eq_true, if_false]
  refine wpAny_bind (G.iter _ _ s _ _ k0 hD hS fun h1 w1 e1 k1 => ?_)
  refine wpAny_bind (wpAny_holding (G.hint _ _ _ _ k1 fun b => ?_))
  refine wpAny_ite_split (fun _ => ?_) (fun _ => wpAny_pure ⟨plainId_quiet PySem.F.plain_extend_loop _, go h1 s.toks c w1 e1⟩)
  refine wpAny_bind (wpAny_rule (wpAny_bind ?_))
  show wpAny _ _ (updateSeq D (·.push .none) >>= fun _ => updateSeq D (·.pop)) _ _ _
  refine wpAny_bind (wpAny_updateSeq e1 rfl ?_)
  have e2 := Heap.get?_update_self (Obj.mapSeq (·.push Value.none)) e1 rfl
  refine wpAny_updateSeq (hz := by seq_fits) e2 rfl ?_
  have e3 := Heap.get?_update_self (Obj.mapSeq (·.pop)) e2 rfl
  refine wpAny_pure ⟨plainId_quiet PySem.F.plain_extend_loop _, go _ _ _ (F.stay _ _ h1 _ w1 (fun b o hb e => (Heap.get?_update_other _ _ (Ne.symm hb)).trans ((Heap.get?_update_other _ _ (Ne.symm hb)).trans e)) ?_) e3⟩
  rw [Heap.size_update, Heap.size_update]
  exact Nat.le_refl _
theorem calls {E : Value → Shared → Prop} {Q : Value → Shared → Prop} {T : String} {r : Addr} (hh : A.handled = none) (hn : n ≤ sizeLine) (G : Given prog w T r I s.heap.objs.size n W Z s.heap)
    (hQ : ∀ h' tk vs c, Z vs h' → vs.length = n → h'.get? s.heap.objs.size = some (lstO vs c) → Q (.ref s.heap.objs.size) { s with heap := h', toks := tk }) : wpAny (model prog w) A (call (.type "list") [.ref r]) Q E s := by
  refine callType_codes (Q₁ := fun obj s₁ => obj = .ref s.heap.objs.size ∧ s₁ = { s with heap := s.heap.push (lstO [] 0) }) PySem.F.called_list (PySem.F.typeCall_list_1 _) PySem.F.entry_list_init (code_list_new _ ⟨rfl, rfl⟩) fun obj s1 q => ?_
  obtain ⟨rfl, rfl⟩ := q
  have e0 : (s.heap.push (lstO [] 0)).get? s.heap.objs.size = some (lstO [] 0) := Heap.get?_push_size _ rfl
  refine ⟨⟨_, e0, rfl⟩, PySem.F.args_list_init_2 _ _, ?_⟩
  show wpAny _ _ (do let old ← Builtin.List.listItems (.ref s.heap.objs.size); Builtin.List.listUpdate (.ref s.heap.objs.size) (fun _ => #[]); letGo old.toList.reverse; Builtin.List.listExtendWith (.ref s.heap.objs.size) (.ref r) .none) _ _ _
  refine wpAny_bind ?_
  unfold Builtin.List.listItems
  refine wpAny_bind (wpAny_seqItems e0 rfl (wpAny_pure ?_))
  show wpAny _ _ (updateSeq s.heap.objs.size (fun _ => #[]) >>= fun _ => letGo (#[] : Array Value).toList.reverse >>= fun _ => Builtin.List.listExtendWith (.ref s.heap.objs.size) (.ref r) .none) _ _ _
  refine wpAny_bind (wpAny_updateSeq e0 rfl ?_)
  have e1 := Heap.get?_update_self (Obj.mapSeq (fun _ => (#[] : Array Value))) e0 rfl
  refine wpAny_bind (wpAny_letGo ?_)
  refine extnd (A := A.in1) (c := 0) G hh hn ?_ (fun b o e => ?_) ?_ .none e1 fun h' tk vs c hw hl hd => ⟨rfl, hQ h' tk vs c hw hl hd⟩
  · rw [Heap.size_update, Heap.size_push]
  · exact (Heap.get?_update_other _ _ (Ne.symm (Nat.ne_of_lt (Heap.lt_size e)))).trans (Heap.get?_push_of_some _ e)
  · cases q : s.heap.get? s.heap.objs.size with
    | none => rfl
    | some o => exact absurd (Heap.lt_size q) (Nat.lt_irrefl _)
end
end Grow
end Qd


set_option Elab.async false
set_option linter.all false
set_option maxRecDepth 100000
set_option maxHeartbeats 4000000
/-! Second layer, part I: list(zip(..)), list(d.items()) over data. -/
namespace Qd
open PySem L2

/-! ### new tuples, many at once -/
def putP : Hp → List Addr → List (List V) → Hp
  | H, a :: as, p :: ps => putP (upd H a (.tup p)) as ps
  | H, _, _ => H
theorem putP_off {b : Addr} : ∀ (as : List Addr) (ps : List (List V)) (H : Hp), b ∉ as → putP H as ps b = H b
  | [], _, _, _ => rfl
  | _ :: _, [], _, _ => rfl
  | a :: as, p :: ps, H, h => by
    have h1 : b ∉ as := fun z => h (List.mem_cons_of_mem _ z)
    have h2 : b ≠ a := fun z => h (by rw [z]; exact List.mem_cons_self ..)
    exact (putP_off as ps _ h1).trans (upd_ne h2)
theorem putP_at : ∀ (as : List Addr) (ps : List (List V)) (H : Hp), as.length = ps.length → as.Nodup → ∀ (j : Nat) (a : Addr), as[j]? = some a → ∃ p, ps[j]? = some p ∧ putP H as ps a = some (.tup p)
  | [], _, _, _, _, j, a, h => by simp at h
  | _ :: _, [], _, hl, _, _, _, _ => by simp at hl
  | a :: as, p :: ps, H, hl, hn, 0, b, h => by
    obtain rfl : a = b := by simpa using h
    exact ⟨p, rfl, (putP_off as ps _ (List.nodup_cons.mp hn).1).trans upd_same⟩
  | a :: as, p :: ps, H, hl, hn, j + 1, b, h => by
    obtain ⟨q, h1, h2⟩ := putP_at as ps (upd H a (.tup p)) (by simpa using hl) (List.nodup_cons.mp hn).2 j b (by simpa using h)
    exact ⟨q, by simpa using h1, h2⟩
theorem putP_keep {b : Addr} {u : HO} {as : List Addr} {ps : List (List V)} {H : Hp} (h : H b = some u) (hn : ∀ a ∈ as, H a = none) : putP H as ps b = some u :=
  (putP_off as ps H fun z => by rw [hn b z] at h; cases h).trans h
/-- new objects, many at once: H' tells of all -/
theorem laid_many {X : Cx} {pins : List (Addr × Obj)} {σ : St} {H H' : Hp} {s : Shared} {h' : Heap} {tk : Nat} (I : Inv X pins σ H s) (hk : ∀ b o, s.heap.get? b = some o → h'.get? b = some o) (up : ∀ b u, H b = some u → H' b = some u) (low : ∀ b o, s.heap.get? b = some o → H' b = H b)
    (new : ∀ b u, H' b = some u → H b = none → ObjOk X.prog X.w H' h' b u) : Inv X pins σ H' { s with heap := h', toks := tk } := by
  refine I.call' (ch := []) rfl ⟨fun b o q _ _ _ => hk b o q, fun b o q _ _ _ => ⟨o.slots, hk b o q⟩, fun b o q n _ => (low b o q).trans n, fun b o q _ => ⟨o, hk b o q⟩, fun b xs q => up b _ q, fun b o u q => up b _ q, fun b ps q => ⟨#[], by rw [up b _ q]; simp⟩⟩
    (fun b u q => ?_) I.bare fun b z => absurd z (by simp)
  cases e : H b with
  | none => exact new b u q e
  | some v =>
    have e2 := up b v e
    rw [q] at e2
    cases e2
    exact (I.hok b u e).stay (fun d v _ y => hk d v y) (fun d y => up d _ y) fun d xs y => up d _ y
section
variable {K : PySem.W.Frag} {T : Tz} {F H : Hp} {A : MH}
/-- rows of data, their tuples laid -/
inductive Rows (K : PySem.W.Frag) (F : Hp) : List (List V) → List (List D) → Prop
  | nil : Rows K F [] []
  | cons {v : List V} {d : List D} {vs : List (List V)} {ds : List (List D)} : Reps K F v d → Rows K F vs ds → Rows K F (v :: vs) (d :: ds)
theorem Rows.mono {F F' : Hp} (e : Same F F') {vs : List (List V)} {ds : List (List D)} (r : Rows K F vs ds) : Rows K F' vs ds := by
  induction r with
  | nil => exact .nil
  | cons h _ ih => exact .cons (h.mono e) ih
theorem RS.goP {ps : List (List V)} {ds : List (List D)} {F : Hp} (r : Rows K F ps ds) : ∀ {as : List Addr} {F1 H : Hp}, Same F F1 → RS K T F1 A H → as.length = ps.length → as.Nodup → (∀ a ∈ as, H a = none) →
    ∃ F', Go K T F1 A H F' A (putP H as ps) ∧ Reps K F' (as.map .ref) (ds.map .tup) := by
  induction r with
  | nil =>
    intro as F1 H e R hl hn hf
    cases as with
    | nil => exact ⟨F1, R.go, .nil⟩
    | cons a as => simp at hl
  | @cons v d vs ds r rr ih =>
    intro as F1 H e R hl hn hf
    cases as with
    | nil => simp at hl
    | cons a as =>
      have hn' := List.nodup_cons.mp hn
      have g := R.goF (u := .tup v) (hf a (List.mem_cons_self ..)) trivial
      obtain ⟨F', g2, r2⟩ := ih (e.trans g.ext) g.rs (by simpa using hl) hn'.2 (fun b hb => by rw [upd_ne (show b ≠ a from fun z => hn'.1 (by rw [← z]; exact hb))]; exact hf b (List.mem_cons_of_mem _ hb))
      exact ⟨F', g.trans g2, .cons (.tup (.of (g2.ext _ _ upd_same)) (r.mono (e.trans (g.trans g2).ext))) r2⟩
/-- a new list of new tuples -/
theorem newLP_ok {m : Bool} {ds : List (List D)} {P : KQ} {vs : List (List V)} {p : Addr} {as : List Addr} {Q : VK} (R : RS K T F A H) (h : newL m (ds.map .tup) A P) (r : Rows K F vs ds) (hl : as.length = vs.length) (hn : as.Nodup) (hf : ∀ a ∈ as, H a = none) (hp : H p = none) (hpa : p ∉ as)
    (k : ∀ d A' v H' F', P d A' → Go K T F A H F' A' H' → Rep K F' v d → Q v H') : Q (.ref p) (upd (putP H as vs) p (.lst (as.map .ref))) := by
  obtain ⟨F', g, r'⟩ := RS.goP r (Same.refl F) R hl hn hf
  exact newL_ok g.rs h r' (by rw [putP_off _ _ _ hpa]; exact hp) fun d A' v H' F2 p g2 rr => k d A' v H' F2 p (g.trans g2) rr
end
/-- the walk's end: the list at D of the tuples at as -/
theorem inv_rows {X : Cx} {pins : List (Addr × Obj)} {σ : St} {H : Hp} {s : Shared} {h' : Heap} {tk c : Nat} {D : Addr} {as : List Addr} {vs : List (List V)} {us : List (List Value)} (I : Inv X pins σ H s) (hk : ∀ b o, s.heap.get? b = some o → h'.get? b = some o) (hD : s.heap.objs.size ≤ D)
    (hd : h'.get? D = some (Grow.lstO (as.map .ref) c)) (hz : as.length ≤ sizeLine) (hl : as.length = vs.length) (hn : as.Nodup) (ha : ∀ a ∈ as, s.heap.objs.size ≤ a) (hDa : D ∉ as) (hu : Paired Vals vs us) (h2 : ∀ v ∈ vs, v.length ≤ sizeLine)
    (ht : ∀ (j : Nat) (a : Addr) (u : List Value), as[j]? = some a → us[j]? = some u → h'.get? a = some { cls := .type "tuple", data := .seq u.toArray }) :
    Inv X pins σ (upd (putP H as vs) D (.lst (as.map .ref))) { s with heap := h', toks := tk } := by
  have nA : ∀ a ∈ as, H a = none := fun a hm => I.hok.fresh (ha a hm)
  have nD : H D = none := I.hok.fresh hD
  refine laid_many I hk (fun b u e => ?_) (fun b o e => ?_) fun b u e n => ?_
  · rw [upd_ne (ne_of_none e nD)]; exact putP_keep e nA
  · have lt := Heap.lt_size e
    rw [upd_ne (fun z => by rw [z] at lt; exact absurd lt (Nat.not_lt.mpr hD)), putP_off _ _ _ fun z => absurd lt (Nat.not_lt.mpr (ha b z))]
  · by_cases hb : b = D
    · subst hb
      rw [upd_same] at e; cases e
      exact ⟨by rw [List.length_map]; exact hz, as.map .ref, c, vals_refs as, hd⟩
    · rw [upd_ne hb] at e
      by_cases hm : b ∈ as
      · obtain ⟨j, hj⟩ := List.mem_iff_getElem?.mp hm
        obtain ⟨p, h3, h4⟩ := putP_at as vs H hl hn j b hj
        rw [h4] at e; cases e
        have hlu := hu.length
        have hjl : j < us.length := by
          have := (List.getElem?_eq_some_iff.mp h3).1
          omega
        have rv := paired_at hu h3 (List.getElem?_eq_getElem hjl)
        exact ⟨h2 p (List.mem_of_getElem? h3), us[j], rv, ⟨_, ht j b _ hj (List.getElem?_eq_getElem hjl), rfl, _, rfl⟩⟩
      · rw [putP_off _ _ _ hm] at e
        rw [n] at e; cases e

/-! ### the tuples made so far -/
structure MadeP (lo : Addr) (n : Nat) (Pr : Nat → Value → Value → Prop) (h : Heap) (as : List Addr) : Prop where
  len : as.length = n
  nod : as.Nodup
  above : ∀ a ∈ as, lo < a ∧ a < h.objs.size
  at' : ∀ (j : Nat) (a : Addr), as[j]? = some a → ∃ x y, Pr j x y ∧ h.get? a = some { cls := .type "tuple", data := .seq #[x, y] }
theorem MadeP.nil {lo : Addr} {Pr : Nat → Value → Value → Prop} {h : Heap} : MadeP lo 0 Pr h [] := ⟨rfl, .nil, fun a z => by simp at z, fun j a z => by simp at z⟩
theorem MadeP.mono {lo : Addr} {n : Nat} {Pr : Nat → Value → Value → Prop} {h h' : Heap} {as : List Addr} (g : MadeP lo n Pr h as) (k : ∀ b o, lo < b → h.get? b = some o → h'.get? b = some o) (hs : h.objs.size ≤ h'.objs.size) : MadeP lo n Pr h' as :=
  ⟨g.len, g.nod, fun a ha => ⟨(g.above a ha).1, Nat.lt_of_lt_of_le (g.above a ha).2 hs⟩, fun j a hj => let ⟨x, y, h1, h2⟩ := g.at' j a hj; ⟨x, y, h1, k a _ (g.above a (List.mem_of_getElem? hj)).1 h2⟩⟩
theorem MadeP.snoc {lo : Addr} {n : Nat} {Pr : Nat → Value → Value → Prop} {h h' : Heap} {as : List Addr} {x y : Value} (g : MadeP lo n Pr h as) (hlo : lo < h.objs.size) (k : ∀ b o, lo < b → h.get? b = some o → h'.get? b = some o) (hs : h'.objs.size = h.objs.size + 1) (p : Pr n x y)
    (ht : h'.get? h.objs.size = some { cls := .type "tuple", data := .seq #[x, y] }) : MadeP lo (n + 1) Pr h' (as ++ [h.objs.size]) := by
  have g' := g.mono k (by omega)
  refine ⟨by rw [List.length_append, g.len]; rfl, ?_, fun a ha => ?_, fun j a hj => ?_⟩
  · refine List.nodup_append.mpr ⟨g.nod, by simp, fun a ha b hb => ?_⟩
    rw [List.mem_singleton.mp hb]
    exact Nat.ne_of_lt (g.above a ha).2
  · rcases List.mem_append.mp ha with q | q
    · exact g'.above a q
    · rw [List.mem_singleton.mp q]; exact ⟨hlo, by rw [hs]; exact Nat.lt_succ_self _⟩
  · by_cases hl : j < as.length
    · rw [List.getElem?_append_left hl] at hj; exact g'.at' j a hj
    · rw [List.getElem?_append_right (by omega)] at hj
      have e0 : j - as.length = 0 := by
        cases q : j - as.length with
        | zero => rfl
        | succ m => rw [q] at hj; simp at hj
      rw [e0] at hj
      have ea : h.objs.size = a := by simpa using hj
      subst ea
      have ej : j = n := by have := g.len; omega
      subst ej
      exact ⟨x, y, p, ht⟩

/-! ### zip of two lists -/
section
variable {prog : Program} {w : World}
def ZW (hb : Heap) (z TI TO i1 i2 l1 l2 D : Addr) (xs ys : Array Value) (i : Nat) (vs : List Value) (h : Heap) : Prop :=
  (∀ b o, b ≠ z → b ≠ TO → b ≠ i1 → b ≠ i2 → hb.get? b = some o → h.get? b = some o) ∧ D < h.objs.size ∧ IsPair h TI (.ref i1) (.ref i2) ∧ h.IsListIter i1 l1 i ∧ h.IsListIter i2 l2 i ∧ h.IsList l1 xs ∧ h.IsList l2 ys ∧
  ((IsZip h z TI TO .none ∧ ∃ a b, IsPair h TO a b) ∨ ∃ T f oT, IsZipHeld h z TI TO T f ∧ h.get? T = some oT ∧ T ≠ z ∧ T ≠ i1 ∧ T ≠ i2 ∧ T ≠ D) ∧
  ∃ as, vs = as.map Value.ref ∧ MadeP D i (fun j x y => xs[j]? = some x ∧ ys[j]? = some y) h as
def ZZ (hb : Heap) (z TO i1 i2 D : Addr) (xs ys : Array Value) (vs : List Value) (h : Heap) : Prop :=
  (∀ b o, b ≠ z → b ≠ TO → b ≠ i1 → b ≠ i2 → hb.get? b = some o → h.get? b = some o) ∧ ∃ as, vs = as.map Value.ref ∧ MadeP D (min xs.size ys.size) (fun j x y => xs[j]? = some x ∧ ys[j]? = some y) h as
theorem zipFeed {hb : Heap} {z TI TO i1 i2 l1 l2 D : Addr} {xs ys : Array Value} (ap : ZipApart z TI TO i1 i2 l1 l2) (lt : z < D ∧ TI < D ∧ TO < D ∧ i1 < D ∧ i2 < D ∧ l1 < D ∧ l2 < D) (ndb : ∀ o, hb.get? D = some o → False) (A : Around) (hh : A.handled = none) :
    Grow.Feed prog w A z D (min xs.size ys.size) (ZW hb z TI TO i1 i2 l1 l2 D xs ys) (ZZ hb z TO i1 i2 D xs ys) where
  stay := fun i vs h h' st k hs => by
    obtain ⟨h0, hD, hTI, h1, h2, hl1, hl2, hz, as, e, g⟩ := st
    obtain ⟨q1, q2, q3, q4, q5, q6, q7⟩ := lt
    have kk : ∀ {b : Addr}, b < D → ∀ o, h.get? b = some o → h'.get? b = some o := fun {b} hb o e => k b o (Nat.ne_of_lt hb) e
    refine ⟨fun b o n1 n2 n3 n4 e0 => ?_, Nat.lt_of_lt_of_le hD hs, kk q2 _ hTI, h1.at (kk q4), h2.at (kk q5), hl1.at (kk q6), hl2.at (kk q7), ?_, as, e, g.mono (fun b o hb e0 => k b o (Nat.ne_of_gt hb) e0) hs⟩
    · by_cases hb : b = D
      · subst hb
        exact (ndb _ e0).elim
      · exact k b o hb (h0 b o n1 n2 n3 n4 e0)
    · rcases hz with ⟨hz, a, b, hTO⟩ | ⟨t, f, oT, hz, hT, r1, r2, r3, r4⟩
      · exact .inl ⟨kk q1 _ hz, a, b, kk q3 _ hTO⟩
      · exact .inr ⟨t, f, oT, kk q1 _ hz, k t _ r4 hT, r1, r2, r3, r4⟩
  item := fun s i vs o Q E hi st hd hQ => by
    obtain ⟨h0, hD, hTI, h1, h2, hl1, hl2, hz, as, e, g⟩ := st
    obtain ⟨q1, q2, q3, q4, q5, q6, q7⟩ := lt
    have ex := Array.getElem?_eq_getElem (xs := xs) (i := i) (by omega)
    have ey := Array.getElem?_eq_getElem (xs := ys) (i := i) (by omega)
    have fresh : ∀ {b : Addr}, b < D → s.heap.objs.size ≠ b := fun {b} hb => Nat.ne_of_gt (Nat.lt_trans hb hD)
    have nD : s.heap.objs.size ≠ D := Nat.ne_of_gt hD
    have more : ∀ {h' : Heap} {tk : Nat}, h'.get? s.heap.objs.size = some { cls := .type "tuple", data := .seq #[xs[i]'(by omega), ys[i]'(by omega)] } → h'.objs.size = s.heap.objs.size + 1 → (∀ b o, b ≠ z → b ≠ TO → b ≠ i1 → b ≠ i2 → s.heap.get? b = some o → h'.get? b = some o) →
        h'.IsListIter i1 l1 (i + 1) → h'.IsListIter i2 l2 (i + 1) → ((IsZip h' z TI TO .none ∧ ∃ a b, IsPair h' TO a b) ∨ ∃ T f oT, IsZipHeld h' z TI TO T f ∧ h'.get? T = some oT ∧ T ≠ z ∧ T ≠ i1 ∧ T ≠ i2 ∧ T ≠ D) → Q (some (.ref s.heap.objs.size)) { s with heap := h', toks := tk } := fun {h' tk} ht hs k a3 a4 a5 => by
      have k2 : ∀ b o, D < b → s.heap.get? b = some o → h'.get? b = some o := fun b o hb e => k b o (Nat.ne_of_gt (Nat.lt_trans q1 hb)) (Nat.ne_of_gt (Nat.lt_trans q3 hb)) (Nat.ne_of_gt (Nat.lt_trans q4 hb)) (Nat.ne_of_gt (Nat.lt_trans q5 hb)) e
      refine hQ _ _ _ ⟨fun b o n1 n2 n3 n4 e0 => k b o n1 n2 n3 n4 (h0 b o n1 n2 n3 n4 e0), by rw [hs]; exact Nat.lt_succ_of_lt hD, k _ _ ap.TIz ap.TITO ap.TIi1 ap.TIi2 hTI, a3, a4, hl1.at fun o e => k _ o ap.l1z ap.l1TO ap.l1i1 ap.l1i2 e, hl2.at fun o e => k _ o ap.l2z ap.l2TO ap.l2i1 ap.l2i2 e, a5,
        as ++ [s.heap.objs.size], by rw [e, List.map_append]; rfl, g.snoc hD k2 hs ⟨ex, ey⟩ ht⟩ (k D o (Nat.ne_of_gt q1) (Nat.ne_of_gt q3) (Nat.ne_of_gt q4) (Nat.ne_of_gt q5) hd)
    rcases hz with ⟨hz, a, b, hTO⟩ | ⟨t, f, oT, hz, hT, r1, r2, r3, r4⟩
    · refine wpAny_pyNext_zip_item ap hz hTI hTO h1 h2 hl1 hl2 ex ey fun h' a1 a2 a3 a4 a5 a6 hk => ?_
      exact more (tk := s.toks) a5 a6 hk a3 a4 (.inr ⟨s.heap.objs.size, false, _, a1, a5, fresh q1, fresh q4, fresh q5, nD⟩)
    · refine wpAny_pyNext_zip_item_held ap hz hT hTI h1 h2 hl1 hl2 ex ey fun h' a1 a3 a4 a5 a6 hk => ?_
      exact more (tk := s.toks) a5 a6 (fun b o n1 _ n3 n4 e => hk b o n1 n3 n4 e) a3 a4 (.inr ⟨t, true, oT, a1, hk _ _ r1 r2 r3 hT, r1, r2, r3, r4⟩)
  done := fun s vs o Q E st hd hQ => by
    obtain ⟨h0, hD, hTI, h1, h2, hl1, hl2, hz, as, e, g⟩ := st
    obtain ⟨q1, q2, q3, q4, q5, q6, q7⟩ := lt
    have hend : xs[min xs.size ys.size]? = none ∨ ys[min xs.size ys.size]? = none := by
      rcases Nat.lt_or_ge xs.size ys.size with h | h
      · exact .inl (Array.getElem?_eq_none (by omega))
      · exact .inr (Array.getElem?_eq_none (by omega))
    have fin : ∀ {h' : Heap} {tk : Nat}, (∀ b o, b ≠ z → b ≠ TO → b ≠ i1 → b ≠ i2 → s.heap.get? b = some o → h'.get? b = some o) → Q none { s with heap := h', toks := tk } := fun {h' tk} k => by
      refine hQ h' tk ⟨fun b o n1 n2 n3 n4 e0 => k b o n1 n2 n3 n4 (h0 b o n1 n2 n3 n4 e0), as, e, g.len, g.nod, fun a ha => ?_, fun j a hj => ?_⟩ (k D o (Nat.ne_of_gt q1) (Nat.ne_of_gt q3) (Nat.ne_of_gt q4) (Nat.ne_of_gt q5) hd)
      · obtain ⟨j, hj⟩ := List.mem_iff_getElem?.mp ha
        obtain ⟨x, y, _, et⟩ := g.at' j a hj
        have hb := (g.above a ha).1
        exact ⟨hb, Heap.lt_size (k a _ (Nat.ne_of_gt (Nat.lt_trans q1 hb)) (Nat.ne_of_gt (Nat.lt_trans q3 hb)) (Nat.ne_of_gt (Nat.lt_trans q4 hb)) (Nat.ne_of_gt (Nat.lt_trans q5 hb)) et)⟩
      · obtain ⟨x, y, p, et⟩ := g.at' j a hj
        have hb := (g.above a (List.mem_of_getElem? hj)).1
        exact ⟨x, y, p, k a _ (Nat.ne_of_gt (Nat.lt_trans q1 hb)) (Nat.ne_of_gt (Nat.lt_trans q3 hb)) (Nat.ne_of_gt (Nat.lt_trans q4 hb)) (Nat.ne_of_gt (Nat.lt_trans q5 hb)) et⟩
    rcases hz with ⟨hz, a, b, hTO⟩ | ⟨t, f, oT, hz, hT, r1, r2, r3, r4⟩
    · exact wpAny_pyNext_zip_end hh ap hz hTI hTO h1 h2 hl1 hl2 hend fun h' k => fin (tk := s.toks) k
    · exact wpAny_pyNext_zip_end_held hh ap hz hT hTI h1 h2 hl1 hl2 hend fun h' k => fin (tk := s.toks) fun b o n1 _ n3 n4 e => k b o n1 n3 n4 e
theorem zip_noLen : typeLookup (.type "zip") "__len__" = pure none := by rw [typeLookup_type, builtinLookup_eq_fast]; kernel_rfl
theorem zip_noHint : typeLookup (.type "zip") "__length_hint__" = pure none := by rw [typeLookup_type, builtinLookup_eq_fast]; kernel_rfl
theorem zip_hint {A : Around} {E : Value → Shared → Prop} {s : Shared} {z : Addr} {Q : Bool → Shared → Prop} (hT : s.TypeIs (.ref z) "zip") (h : ∀ b, Q b s) : wpAny (model prog w) A (Builtin.List.listLengthHint (.ref z)) Q E s := by
  unfold Builtin.List.listLengthHint
  refine wpAny_bind (wpAny_specialOf hT zip_noLen ?_)
  show wpAny _ _ (specialOf (Value.ref z) (Str.ofString "__length_hint__") >>= _) _ _ _
  refine wpAny_bind (wpAny_specialOf hT zip_noHint ?_)
  exact wpAny_pure (h _)
theorem zipGiven {h0 : Heap} {z TI TO i1 i2 l1 l2 : Addr} {xs ys : Array Value} (ap : ZipApart z TI TO i1 i2 l1 l2) (hz : IsZip h0 z TI TO .none) (hTI : IsPair h0 TI (.ref i1) (.ref i2)) {a b : Value} (hTO : IsPair h0 TO a b) (h1 : h0.IsListIter i1 l1 0) (h2 : h0.IsListIter i2 l2 0)
    (hl1 : h0.IsList l1 xs) (hl2 : h0.IsList l2 ys) : Grow.Given prog w "zip" z z h0.objs.size (min xs.size ys.size) (ZW h0 z TI TO i1 i2 l1 l2 h0.objs.size xs ys) (ZZ h0 z TO i1 i2 h0.objs.size xs ys) h0 where
  notL := by decide
  notT := by decide
  ne := Nat.ne_of_gt (Heap.lt_size hz)
  type := fun s k => ⟨_, k _ _ hz, rfl⟩
  hint := fun A E s Q k h => zip_hint ⟨_, k _ _ hz, rfl⟩ h
  iter := fun A E s o Q k hs hd h => wpAny_pyIter_zip (k _ _ hz) (h s.heap ⟨fun b o _ _ _ _ e => k b o e, by rw [hs]; exact Nat.lt_succ_self _, k _ _ hTI, h1.at fun o e => k _ o e, h2.at fun o e => k _ o e, hl1.at fun o e => k _ o e, hl2.at fun o e => k _ o e, .inl ⟨k _ _ hz, a, b, k _ _ hTO⟩, [], rfl, .nil⟩ hd k)
  feed := fun A hh => zipFeed ap ⟨Heap.lt_size hz, Heap.lt_size hTI, Heap.lt_size hTO, let ⟨_, e, _⟩ := h1; Heap.lt_size e, let ⟨_, e, _⟩ := h2; Heap.lt_size e, let ⟨_, e, _⟩ := hl1; Heap.lt_size e, let ⟨_, e, _⟩ := hl2; Heap.lt_size e⟩ (fun o e => absurd (Heap.lt_size e) (Nat.lt_irrefl _)) A hh
end
section
variable {X : Cx} {T : Tz} {e e2 : Expr} {t : TAQ} {p p2 pos pos2 : Pos}
def pairL (xs ys : List D) : List D := (xs.zip ys).map fun p => .tup [p.1, p.2]
/-- list(zip(a, b)), two lists -/
def qListZip (m : Bool) (t : TAQ) : TQ := fun s A P => t s A fun ds A1 => match ds with
  | [x, y] => okQ (lstD A1 x) fun xs => okQ (lstD A1 y) fun ys => newL m (pairL xs ys) A1 P
  | _ => False
theorem zipRows {K : PySem.W.Frag} {F : Hp} : ∀ {vs ws : List V} {xs ys : List D}, Reps K F vs xs → Reps K F ws ys → Rows K F ((vs.zip ws).map fun p => [p.1, p.2]) ((xs.zip ys).map fun p => [p.1, p.2])
  | _, _, _, _, .nil, _ => by simp; exact .nil
  | _, _, _, _, .cons _ _, .nil => by simp; exact .nil
  | _, _, _, _, .cons a b, .cons c d => .cons (.cons a (.cons c .nil)) (zipRows b d)
theorem zipVals : ∀ {vs ws : List V} {us ts : List Value}, Vals vs us → Vals ws ts → Paired Vals ((vs.zip ws).map fun p => [p.1, p.2]) ((us.zip ts).map fun p => [p.1, p.2])
  | _, _, _, _, .nil, _ => by simp; exact .nil
  | _, _, _, _, .cons _ _, .nil => by simp; exact .nil
  | _, _, _, _, .cons a b, .cons c d => .cons (.cons a (.cons c .nil)) (zipVals b d)
theorem pq_listZip (m : Bool) (hc : X.calm = true) (hg : Gl X "list") (hm : X.mg "list" = none) (hg2 : Gl X "zip") (hm2 : X.mg "zip" = none) (ha : PAQ X T [e, e2] t) (hv : bootBuiltins "list" = some (.type "list") := by decide +kernel)
    (hs : starEach [.Call (.Name "zip" p2) [e, e2] [] pos2] X.env = (false, eval (.Call (.Name "zip" p2) [e, e2] [] pos2) X.env) :: starEach [] X.env := by rfl)
    (hs2 : starEach [e, e2] X.env = (false, eval e X.env) :: starEach [e2] X.env := by rfl) (hpl : (backTo pos2 (starEach [e2] X.env)).any (·.1) = false := by rfl) :
    PQ X T (.Call (.Name "list" p) [.Call (.Name "zip" p2) [e, e2] [] pos2] [] pos) (qListZip m t) := ⟨⟨fun pins s σ H Q I h => by
  obtain ⟨F, A, sl, hsl, hR, P, ht, k⟩ := h
  refine wpAny_Call_Name_kw (ld_blt I hg hm hv ?_)
  refine PyProof.Rows.callWith_type1 ?_ hs rfl
  rw [hs]
  show wpAny _ _ (spliced ((false, eval (.Call (.Name "zip" p2) [e, e2] [] pos2) X.env) :: backTo pos (starEach [] X.env))) _ _ s
  refine Calls.spliced_cons ?_
  refine PyProof.Rows.Call_ (ld_blt I hg2 hm2 PyProof.Rows.boot_zip (PyProof.Rows.callWith_type1 (thn (ha.pa.run pos2 pins s σ H _ I ⟨F, A, sl, hsl, hR, _, ht, fun ds A1 vs H1 F1 p1 g1 r1 => (show (fun vs H1 => ∃ F1 A1 ds, Reps X.K F1 vs ds ∧ Go X.K T F A H F1 A1 H1 ∧ (match ds with
    | [x, y] => okQ (lstD A1 x) fun xs => okQ (lstD A1 y) fun ys => newL m (pairL xs ys) A1 P
    | _ => False)) vs H1 from ⟨F1, A1, ds, r1, g1, p1⟩)⟩) fun us s1 ⟨vs, H1, I1, r1, q1⟩ => ?_) hs2 hpl))
  obtain ⟨F1, A1, ds, rd, g1, p1⟩ := q1
  split at p1
  · rename_i x y
    obtain ⟨v, w, rfl, rx, ry⟩ := reps2 rd
    cases ex : lstD A1 x with
    | none => rw [ex] at p1; exact p1.elim
    | some xs =>
      rw [ex] at p1
      simp only [okQ_some] at p1
      cases ey : lstD A1 y with
      | none => rw [ey] at p1; exact p1.elim
      | some ys =>
        rw [ey] at p1
        simp only [okQ_some] at p1
        obtain ⟨a, vs, rfl, hx, hxr⟩ := lst_rep g1.rs rx ex
        obtain ⟨b, ws, rfl, hy, hyr⟩ := lst_rep g1.rs ry ey
        obtain ⟨u1, u2, rfl, ru1, ru2⟩ := vals2 r1
        obtain rfl : u1 = Value.ref a := ru1
        obtain rfl : u2 = Value.ref b := ru2
        obtain ⟨its, rv, pl1, hz1⟩ := I1.list hx
        obtain ⟨its2, rv2, pl2, hz2⟩ := I1.list hy
        refine call_zip_2 pl1.isList pl2.isList fun h' hz hTI hTO h1 h2 hsz hk => ?_
        refine Calls.spliced_nil ?_
        have l1 : its.length = vs.length := rv.length.symm
        have l2 : its2.length = ws.length := rv2.length.symm
        refine Grow.calls (hn := ?_) (I1.ok.hd hc) (zipGiven (PySem.W.ktu_apart s1.heap.objs.size a b pl1.lt pl2.lt) hz hTI hTO h1 h2 (pl1.isList.at fun o e => hk _ o e) (pl2.isList.at fun o e => hk _ o e)) fun h2 tk vs2 c hw hl hd => ?_
        · simp only [List.size_toArray]; omega
        obtain ⟨kk, as, eas, g⟩ := hw
        subst eas
        have hle : @LE.le Nat _ s1.heap.objs.size h'.objs.size := by rw [hsz]; exact Nat.le_add_right _ _
        have hsz1 : h'.objs.size = s1.heap.objs.size + 5 := hsz
        have hkk : ∀ b o, s1.heap.get? b = some o → h2.get? b = some o := fun b o e => by
          have lt : @LT.lt Nat _ b s1.heap.objs.size := Heap.lt_size e
          exact kk b o (Nat.ne_of_lt (Nat.lt_add_right 4 lt)) (Nat.ne_of_lt (Nat.lt_add_right 3 lt)) (Nat.ne_of_lt lt) (Nat.ne_of_lt (Nat.lt_add_right 1 lt)) (hk b o e)
        have hla : as.length = min vs.length ws.length := by rw [g.len]; simp only [List.size_toArray]; omega
        have hl2 : as.length = ((vs.zip ws).map fun p => [p.1, p.2]).length := by rw [List.length_map, List.length_zip, hla]
        have ab : ∀ a ∈ as, s1.heap.objs.size ≤ a := fun a ha => Nat.le_trans hle (Nat.le_of_lt (g.above a ha).1)
        have nD : h'.objs.size ∉ as := fun z => absurd (g.above _ z).1 (Nat.lt_irrefl _)
        have I2 := inv_rows (tk := tk) (vs := (vs.zip ws).map fun p => [p.1, p.2]) (us := (its.zip its2).map fun p => [p.1, p.2]) I1 hkk hle hd (by omega) hl2 g.nod ab nD (zipVals rv rv2) (fun v hv => by
            obtain ⟨q, _, rfl⟩ := List.mem_map.mp hv
            rw [sizeLine_eq]; simp) (fun j a u hj hu => by
            obtain ⟨x1, y1, ⟨e1, e3⟩, e4⟩ := g.at' j a hj
            rw [List.getElem?_map] at hu
            cases hq : (its.zip its2)[j]? with
            | none => rw [hq] at hu; cases hu
            | some q =>
              rw [hq] at hu
              obtain rfl : [q.1, q.2] = u := by simpa using hu
              obtain ⟨q1, q2⟩ := q
              obtain ⟨w1, w2⟩ := List.getElem?_zip_eq_some.mp hq
              have e1' : its[j]? = some x1 := by simpa using e1
              have e3' : its2[j]? = some y1 := by simpa using e3
              rw [e1'] at w1; rw [e3'] at w2
              cases w1; cases w2
              exact e4)
        refine ⟨.ref h'.objs.size, _, I2, rfl, ?_⟩
        exact newLP_ok (ds := (xs.zip ys).map fun p => [p.1, p.2]) g1.rs (by rw [List.map_map]; exact p1) (zipRows hxr hyr) hl2 g.nod (fun a ha => I1.hok.fresh (ab a ha)) (I1.hok.fresh hle) nD fun d A' v H' F' p g r => k _ _ _ _ _ p (g1.trans g) r
  · exact p1.elim⟩⟩
end

/-! ### the items of a dict -/
section
variable {prog : Program} {w : World}
def EntP (es : Array DictEntry) (j : Nat) (x y : Value) : Prop := ∃ e, es[j]? = some e ∧ x = e.key ∧ y = e.val
def IW (hb : Heap) (d D : Addr) (es : Array DictEntry) (ep : Nat) (i : Nat) (vs : List Value) (h : Heap) : Prop :=
  (∀ b o, hb.get? b = some o → h.get? b = some o) ∧ D + 1 < h.objs.size ∧ PySem.W.KdxSt h (D + 1) d D i es.size ep ∧ DT.Raw h d es ep ∧ ∃ as, vs = as.map Value.ref ∧ MadeP (D + 1) i (EntP es) h as
def IZ (hb : Heap) (D : Addr) (es : Array DictEntry) (vs : List Value) (h : Heap) : Prop :=
  (∀ b o, hb.get? b = some o → h.get? b = some o) ∧ ∃ as, vs = as.map Value.ref ∧ MadeP (D + 1) es.size (EntP es) h as
theorem itemsFeed {hb : Heap} {d : Addr} {es : Array DictEntry} {ep : Nat} (ld : d < hb.objs.size) (A : Around) (hh : A.handled = none) : Grow.Feed prog w A (hb.objs.size + 1) hb.objs.size es.size (IW hb d hb.objs.size es ep) (IZ hb hb.objs.size es) where
  stay := fun i vs h h' st k hs => by
    obtain ⟨h0, hD, hst, hm, as, e, g⟩ := st
    refine ⟨fun b o e0 => k b o (Nat.ne_of_lt (Heap.lt_size e0)) (h0 b o e0), Nat.lt_of_lt_of_le hD hs, hst.keep k (Nat.succ_ne_self _), hm.at' fun o e => k d o (Nat.ne_of_lt ld) e, as, e, g.mono (fun b o hb e0 => k b o (Nat.ne_of_gt (Nat.lt_trans (Nat.lt_succ_self _) hb)) e0) hs⟩
  item := fun s i vs o Q E hi st hd hQ => by
    obtain ⟨h0, hD, hst, hm, as, e, g⟩ := st
    refine DT.nxtI hst (Heap.lt_size hd) hm hi fun h' hst' ht hz hk => ?_
    have nI : ∀ {b : Addr} {o : Obj}, hb.get? b = some o → b ≠ hb.objs.size + 1 := fun {b o} e => Nat.ne_of_lt (Nat.lt_succ_of_lt (Heap.lt_size e))
    exact hQ _ _ s.toks ⟨fun b o e0 => hk b o (nI e0) (h0 b o e0), by rw [hz]; exact Nat.lt_succ_of_lt hD, hst', hm.at' fun o e => hk d o (Nat.ne_of_lt (Nat.lt_succ_of_lt ld)) e, as ++ [s.heap.objs.size], by rw [e, List.map_append]; rfl,
      g.snoc hD (fun b o hb e0 => hk b o (Nat.ne_of_gt hb) e0) hz ⟨es[i], Array.getElem?_eq_getElem hi, rfl, rfl⟩ ht⟩ (hk _ o (Nat.ne_of_lt (Nat.lt_succ_self _)) hd)
  done := fun s vs o Q E st hd hQ => by
    obtain ⟨h0, hD, hst, hm, as, e, g⟩ := st
    refine DT.finI hh hst hm (Nat.le_refl _) fun h' hk => ?_
    have nI : ∀ {b : Addr} {o : Obj}, hb.get? b = some o → b ≠ hb.objs.size + 1 := fun {b o} e => Nat.ne_of_lt (Nat.lt_succ_of_lt (Heap.lt_size e))
    refine hQ h' s.toks ⟨fun b o e0 => hk b o (nI e0) (h0 b o e0), as, e, g.len, g.nod, fun a ha => ?_, fun j a hj => ?_⟩ (hk _ o (Nat.ne_of_lt (Nat.lt_succ_self _)) hd)
    · obtain ⟨j, hj⟩ := List.mem_iff_getElem?.mp ha
      obtain ⟨x, y, _, et⟩ := g.at' j a hj
      have hb := (g.above a ha).1
      exact ⟨hb, Heap.lt_size (hk a _ (Nat.ne_of_gt hb) et)⟩
    · obtain ⟨x, y, p, et⟩ := g.at' j a hj
      exact ⟨x, y, p, hk a _ (Nat.ne_of_gt (g.above a (List.mem_of_getElem? hj)).1) et⟩
theorem itemsGiven {h0 : Heap} {v d : Addr} {es : Array DictEntry} {ep : Nat} (hv : h0.IsItemsView v d) (hm : DT.Raw h0 d es ep) :
    Grow.Given prog w "dict_items" v (h0.objs.size + 1) h0.objs.size es.size (IW h0 d h0.objs.size es ep) (IZ h0 h0.objs.size es) h0 where
  notL := by decide
  notT := by decide
  ne := let ⟨_, e, _⟩ := hv; Nat.ne_of_gt (Heap.lt_size e)
  type := fun s k => let ⟨o, e, c, _⟩ := hv; ⟨o, k _ _ e, c⟩
  hint := fun A E s Q k h => PySem.W.kdx_hint (let ⟨o, e, c, _⟩ := hv; ⟨o, k _ _ e, c⟩) (h false)
  iter := fun A E s o Q k hs hd h => by
    have hv' : s.heap.IsItemsView v d := let ⟨o, e, c⟩ := hv; ⟨o, k _ _ e, c⟩
    have hm' : DT.Raw s.heap d es ep := hm.at' fun o e => k d o e
    refine DT.iterI hv' hm' ?_
    have e1 : s.heap.objs.size = h0.objs.size + 1 := hs
    have e2 := h (s.heap.push { cls := .type "dict_itemiterator", data := .fields #[.none, .bool false, .ref d, .int 0 0, .int es.size 0, .int ep 0, .none, .none] })
      ⟨fun b o e => Heap.get?_push_of_some _ (k b o e), by rw [Heap.size_push, hs]; exact Nat.lt_succ_self _, .inl ⟨rfl, .none, .none, by rw [← hs]; exact Heap.get?_push_size _ rfl⟩, hm'.push _, [], rfl, .nil⟩ (Heap.get?_push_of_some _ hd) fun b o e => Heap.get?_push_of_some _ (k b o e)
    rw [e1]
    exact e2
  feed := fun A hh => itemsFeed hm.lt A hh
end
section
variable {X : Cx} {T : Tz} {e : Expr} {te : TQ} {p apos cpos pos : Pos}
/-- list(d.items()) -/
def qItems (m : Bool) (te : TQ) : TQ := fun s A P => te s A fun d A1 => okQ (entD A1 d) fun kvs => newL m (kvs.map fun p => .tup [p.1, p.2]) A1 P
theorem entRows {K : PySem.W.Frag} {F : Hp} : ∀ {ps : List (V × V)} {ds : List (D × D)}, RepK K F ps ds → Rows K F (ps.map fun p => [p.1, p.2]) (ds.map fun p => [p.1, p.2])
  | _, _, .nil => .nil
  | _, _, .cons a b t => .cons (.cons a (.cons b .nil)) (entRows t)
theorem entVals : ∀ {ps : List (V × V)} {es : List DictEntry}, Paired (fun (p : V × V) (e : DictEntry) => RelV p.1 e.key ∧ RelV p.2 e.val) ps es → Paired Vals (ps.map fun p => [p.1, p.2]) (es.map fun e => [e.key, e.val])
  | _, _, .nil => .nil
  | _, _, .cons a t => .cons (.cons a.1 (.cons a.2 .nil)) (entVals t)
theorem pq_items (m : Bool) (hc : X.calm = true) (he : PQ X T e te) (hm : X.mg "list" = none) (hg : Gl X "list" := by rfl) (hv : bootBuiltins "list" = some (.type "list") := by decide +kernel)
    (hbase : attributeBase e "items" X.env (eval e X.env) = eval e X.env := by rfl) (hline : (apos.endLine == cpos.line) = true := by rfl)
    (hs : starEach [.Call (.Attribute e "items" apos) [] [] cpos] X.env = (false, eval (.Call (.Attribute e "items" apos) [] [] cpos) X.env) :: starEach [] X.env := by rfl) :
    PQ X T (.Call (.Name "list" p) [.Call (.Attribute e "items" apos) [] [] cpos] [] pos) (qItems m te) := ⟨⟨fun pins s σ H Q I h => by
  obtain ⟨F, A, sl, hsl, hR, P, ht, k⟩ := h
  refine wpAny_Call_Name_kw (ld_blt I hg hm hv ?_)
  refine PyProof.Rows.callWith_type1 ?_ hs rfl
  rw [hs]
  show wpAny _ _ (spliced ((false, eval (.Call (.Attribute e "items" apos) [] [] cpos) X.env) :: backTo pos (starEach [] X.env))) _ _ s
  refine Calls.spliced_cons ?_
  refine wpAny_Call_method (T := "dict") (id := "dict.items") hbase rfl hline PySem.F.plainAttrs_dict PySem.F.slot_dict_items PySem.F.type_dict_items (thn (he.pe.run pins s σ H (fun v H1 => ∃ F1 A1 d, Rep X.K F1 v d ∧ Go X.K T F A H F1 A1 H1 ∧ okQ (entD A1 d) fun kvs => newL m (kvs.map fun p => .tup [p.1, p.2]) A1 P) I
    ⟨F, A, sl, hsl, hR, _, ht, fun d A1 v H1 F1 p1 g1 r1 => ⟨F1, A1, d, r1, g1, p1⟩⟩) fun u s1 ⟨v, H1, I1, ru, F1, A1, d, rv, g1, p1⟩ => ?_)
  cases ex : entD A1 d with
  | none => rw [ex] at p1; exact p1.elim
  | some kvs =>
    rw [ex] at p1
    simp only [okQ_some] at p1
    obtain ⟨a, ps, rfl, hx, hxr⟩ := ent_rep I1 g1.rs rv ex
    obtain rfl : u = Value.ref a := ru
    obtain ⟨lo, hz, o, es, ep, e1, e2, e3, e4, e5⟩ := hx
    refine ⟨⟨o, e1, e2.1⟩, fun b q => ?_, Calls.callWith_builtin rfl (PySem.evalArgs_none (DT.callItems (es := es) (ep := ep) lo ⟨o, e1, e2, e3⟩ ?_))⟩
    · cases q; exact ⟨o, e1, e2.2.1⟩
    refine Calls.spliced_nil ?_
    have hm0 : DT.Raw (s1.heap.push { cls := .type "dict_items", data := .fields #[.ref a] }) a es ep := DT.Raw.push (h := s1.heap) ⟨o, e1, e2, e3⟩ _
    have hv0 : (s1.heap.push { cls := .type "dict_items", data := .fields #[.ref a] }).IsItemsView s1.heap.objs.size a := ⟨_, Heap.get?_push_size _ rfl, rfl, rfl⟩
    have e6 : es.size ≤ sizeLine := by rw [e4]; exact hz
    refine Grow.calls (hn := e6) (I1.ok.hd hc) (itemsGiven hv0 hm0) fun h2 tk vs2 c hw hl hd => ?_
    obtain ⟨kk, as, eas, g⟩ := hw
    subst eas
    have sz : (s1.heap.push { cls := .type "dict_items", data := .fields #[.ref a] }).objs.size = s1.heap.objs.size + 1 := Heap.size_push _ _
    have hle : s1.heap.objs.size ≤ (s1.heap.push { cls := .type "dict_items", data := .fields #[.ref a] }).objs.size := by rw [sz]; exact Nat.le_succ _
    have hl2 : as.length = (ps.map fun p => [p.1, p.2]).length := by rw [List.length_map, g.len, e4]
    have ab : ∀ b ∈ as, s1.heap.objs.size ≤ b := fun b hb => Nat.le_trans hle (Nat.le_of_lt (Nat.lt_trans (Nat.lt_succ_self _) (g.above b hb).1))
    have nD : (s1.heap.push { cls := .type "dict_items", data := .fields #[.ref a] }).objs.size ∉ as := fun z => absurd (Nat.lt_trans (Nat.lt_succ_self _) (g.above _ z).1) (Nat.lt_irrefl _)
    have I2 := inv_rows (tk := tk) (vs := ps.map fun p => [p.1, p.2]) (us := es.toList.map fun e => [e.key, e.val]) I1 (fun b o e => kk b o (Heap.get?_push_of_some _ e)) hle hd (by rw [g.len]; exact e6) hl2 g.nod ab nD (entVals e5) (fun v hv => by
            obtain ⟨q, _, rfl⟩ := List.mem_map.mp hv
            rw [sizeLine_eq]; simp) (fun j a u hj hu => by
            obtain ⟨x1, y1, ⟨en, f1, rfl, rfl⟩, f4⟩ := g.at' j a hj
            rw [List.getElem?_map, Array.getElem?_toList, f1] at hu
            obtain rfl : [en.key, en.val] = u := by simpa using hu
            exact f4)
    refine ⟨.ref _, _, I2, rfl, ?_⟩
    exact newLP_ok (ds := kvs.map fun p => [p.1, p.2]) g1.rs (by rw [List.map_map]; exact p1) (entRows hxr) hl2 g.nod (fun b hb => I1.hok.fresh (ab b hb)) (I1.hok.fresh hle) nD fun d A' v H' F' p g r => k _ _ _ _ _ p (g1.trans g) r⟩⟩
end
end Qd


set_option Elab.async false
set_option linter.all false
set_option maxRecDepth 100000
set_option maxHeartbeats 4000000
/-! Second layer, part J: ranges, zip, enumerate walked; methods; targets. -/
namespace Qd
open PySem L2

section
variable {X : Cx} {T : Tz} {tg e a b : Expr} {te ta tb : TQ} {t : TAQ} {pos p : Pos}
/-! ### ranges -/
def smallI (j : Int) : Prop := -1000000 ≤ j ∧ j ≤ 1000000
def qRng1 (t : TAQ) : TAQ := fun s A P => t s A fun ds A1 => match ds with | [.int j] => smallI j ∧ P (rngD 0 j.toNat) A1 | _ => False
def qRng2 (t : TAQ) : TAQ := fun s A P => t s A fun ds A1 => match ds with | [.int i, .int j] => smallI i ∧ smallI j ∧ P (rngD i (j - i).toNat) A1 | _ => False
theorem smallI.bd {j : Int} (h : smallI j) : -(2 ^ 62) ≤ j ∧ j < 2 ^ 62 := by unfold smallI at h; omega
theorem piq_rng1 (hm : X.mg "range" = none) (ha : PAQ X T [a] t) (hg : Gl X "range" := by rfl) (hs : starEach [a] X.env = [(false, eval a X.env)] := by rfl) : PIQ X T tg (.Call (.Name "range" p) [a] [] pos) (qRng1 t) := ⟨⟨fun pins s σ H R I h => by
  obtain ⟨F, A, sl, hsl, hR, P, ht, k⟩ := h
  refine (pi_range1 hg hm ha.pa hs).run pins s σ H R I ⟨F, A, sl, hsl, hR, _, ht, fun ds A1 vs H1 F1 p1 g1 r1 => ?_⟩
  split at p1
  · rename_i j
    obtain ⟨v, rfl, rv⟩ := reps1 r1
    exact ⟨j, by rw [rv.int_inv], p1.1.bd.1, p1.1.bd.2, k _ _ _ _ _ p1.2 g1 Src.rng⟩
  · exact p1.elim⟩⟩
theorem piq_rng2 (hm : X.mg "range" = none) (ha : PAQ X T [a, b] t) (hg : Gl X "range" := by rfl) (hs : starEach [a, b] X.env = [(false, eval a X.env), (false, eval b X.env)] := by rfl) (hs2 : starEach [b] X.env = [(false, eval b X.env)] := by rfl) : PIQ X T tg (.Call (.Name "range" p) [a, b] [] pos) (qRng2 t) := ⟨⟨fun pins s σ H R I h => by
  obtain ⟨F, A, sl, hsl, hR, P, ht, k⟩ := h
  refine (pi_range2 hg hm ha.pa hs hs2).run pins s σ H R I ⟨F, A, sl, hsl, hR, _, ht, fun ds A1 vs H1 F1 p1 g1 r1 => ?_⟩
  split at p1
  · rename_i i j
    obtain ⟨v, w, rfl, rv, rw⟩ := reps2 r1
    exact ⟨i, j, by rw [rv.int_inv, rw.int_inv], ⟨p1.1.bd.1, p1.1.bd.2, p1.2.1.bd.1, p1.2.1.bd.2⟩, k _ _ _ _ _ p1.2.2 g1 Src.rng⟩
  · exact p1.elim⟩⟩
theorem rgV_rep {K : PySem.W.Frag} {F : Hp} (a b : Int) : Reps K F (rgV a b) (rngD a (b - a).toNat) := by
  unfold rgV rngD
  have go : ∀ l : List Nat, Reps K F (l.map fun i => V.int (a + (i : Nat))) (l.map fun i => D.int (a + (i : Nat))) := fun l => by
    induction l with
    | nil => exact .nil
    | cons x r ih => exact .cons (.int _) ih
  exact go _
theorem RgOk.of {i j : Int} (h1 : smallI i) (h2 : smallI j) : RgOk i j := by unfold smallI at *; exact ⟨by omega, by omega, by omega, by omega, by omega⟩
/-- list(range(n)), list(range(i, j)) -/
def qLrg1 (m : Bool) (ta : TQ) : TQ := fun s A P => ta s A fun d A1 => match d with | .int j => smallI j ∧ newL m (rngD 0 j.toNat) A1 P | _ => False
def qLrg2 (m : Bool) (ta tb : TQ) : TQ := fun s A P => ta s A fun d A1 => tb s A1 fun e A2 => match d, e with | .int i, .int j => smallI i ∧ smallI j ∧ newL m (rngD i (j - i).toNat) A2 P | _, _ => False
theorem pq_lrg1 (m : Bool) {p1 pos1 : Pos} (hc : X.calm = true) (hm : X.mg "list" = none) (hm2 : X.mg "range" = none) (ha : PQ X T a ta) (hg : Gl X "list" := by rfl) (hg2 : Gl X "range" := by rfl) (na : starEach [a] X.env = (false, eval a X.env) :: starEach [] X.env := by rfl)
    (nb : starEach [.Call (.Name "range" p1) [a] [] pos1] X.env = (false, eval (.Call (.Name "range" p1) [a] [] pos1) X.env) :: starEach [] X.env := by rfl) : PQ X T (.Call (.Name "list" p) [.Call (.Name "range" p1) [a] [] pos1] [] pos) (qLrg1 m ta) :=
  ⟨(pe_listRg hc hg hm (prg_1 hg2 hm2 ha.pe na) nb).wk fun σ H Q h => by
    obtain ⟨F, A, s, hs, hR, P, ht, k⟩ := h
    refine ⟨F, A, s, hs, hR, _, ht, fun d A1 v H1 F1 p1 g1 r1 => ?_⟩
    split at p1
    · rename_i j
      refine ⟨j, r1.int_inv, RgOk.of (by unfold smallI; omega) p1.1, fun q hq => ?_⟩
      have rr := rgV_rep (K := X.K) (F := F1) 0 j
      rw [Int.sub_zero] at rr
      exact newL_ok g1.rs p1.2 rr hq fun d A' v H' F' p g r => k _ _ _ _ _ p (g1.trans g) r
    · exact p1.elim⟩
theorem pq_lrg2 (m : Bool) {p1 pos1 : Pos} (hc : X.calm = true) (hm : X.mg "list" = none) (hm2 : X.mg "range" = none) (ha : PQ X T a ta) (hb : PQ X T b tb) (hg : Gl X "list" := by rfl) (hg2 : Gl X "range" := by rfl) (na : starEach [a, b] X.env = (false, eval a X.env) :: starEach [b] X.env := by rfl) (na2 : starEach [b] X.env = (false, eval b X.env) :: starEach [] X.env := by rfl) (hpl : (backTo pos1 (starEach [b] X.env)).any (·.1) = false := by rfl)
    (nb : starEach [.Call (.Name "range" p1) [a, b] [] pos1] X.env = (false, eval (.Call (.Name "range" p1) [a, b] [] pos1) X.env) :: starEach [] X.env := by rfl) : PQ X T (.Call (.Name "list" p) [.Call (.Name "range" p1) [a, b] [] pos1] [] pos) (qLrg2 m ta tb) :=
  ⟨(pe_listRg hc hg hm (prg_2 hg2 hm2 ha.pe hb.pe na na2 hpl) nb).wk fun σ H Q h => by
    obtain ⟨F, A, s, hs, hR, P, ht, k⟩ := h
    refine ⟨F, A, s, hs, hR, _, ht, fun d A1 v H1 F1 p1 g1 r1 => ?_⟩
    refine ⟨F1, A1, s, hs.mono g1.ext, g1.rs, _, p1, fun e A2 w H2 F2 p2 g2 r2 => ?_⟩
    split at p2
    · rename_i i j
      refine ⟨i, j, r1.int_inv, r2.int_inv, RgOk.of p2.1 p2.2.1, fun q hq => ?_⟩
      exact newL_ok g2.rs p2.2.2 (rgV_rep i j) hq fun d A' v H' F' p g r => k _ _ _ _ _ p ((g1.trans g2).trans g) r
    · exact p2.elim⟩

/-! ### zip, enumerate -/
/-- both lists, or both tuples, frozen -/
def froL : D → Option (List D)
  | .lst xs => some xs | .frl xs => some xs
  | _ => none
def zipD : D → D → Option (List D × List D)
  | .tup xs, .tup ys => some (xs, ys)
  | x, y => match froL x, froL y with | some xs, some ys => some (xs, ys) | _, _ => none
def qZip (t : TAQ) : TAQ := fun s A P => t s A fun ds A1 => match ds with | [x, y] => okQ (zipD x y) fun p => P (pairL p.1 p.2) A1 | _ => False
theorem froL_rep {K : PySem.W.Frag} {F : Hp} {v : V} {d : D} {xs : List D} (r : Rep K F v d) (h : froL d = some xs) : ∃ a vs, v = .ref a ∧ SqL K F a vs ∧ Reps K F vs xs := by
  cases r with
  | lst h1 h2 => simp only [froL, Option.some.injEq] at h; subst h; exact ⟨_, _, rfl, .of h1, h2⟩
  | frl h1 h2 => simp only [froL, Option.some.injEq] at h; subst h; exact ⟨_, _, rfl, h1, h2⟩
  | _ => simp [froL] at h
theorem pairL_get {xs ys : List D} {i : Nat} {x y : D} (h1 : xs[i]? = some x) (h2 : ys[i]? = some y) : (pairL xs ys)[i]? = some (.tup [x, y]) := by
  unfold pairL
  rw [List.getElem?_map, List.getElem?_zip_eq_some (z := (x, y)) |>.mpr ⟨h1, h2⟩]
  rfl
theorem pairL_length (xs ys : List D) : (pairL xs ys).length = min xs.length ys.length := by simp [pairL]
theorem Src.zip {K : PySem.W.Frag} {a b : Addr} {vs ws : List V} {xs ys : List D} {F0 : Hp} (h : SqL K F0 a vs) (h2 : SqL K F0 b ws) (r : Reps K F0 vs xs) (r2 : Reps K F0 ws ys) : Src K T (Itz K a b) F0 (pairL xs ys) :=
  ⟨fun i F A H hi R e => by
    rw [pairL_length] at hi
    obtain ⟨v, h3, _⟩ := r.get (i := i) (List.getElem?_eq_getElem (by omega))
    obtain ⟨w, h4, _⟩ := r2.get (i := i) (List.getElem?_eq_getElem (by omega))
    exact ⟨vs, ws, v, w, (e.trans R.sub).seq h, (e.trans R.sub).seq h2, h3, h4⟩,
  fun i F A H hi R e => by
    rw [pairL_length] at hi
    exact ⟨vs, ws, (e.trans R.sub).seq h, (e.trans R.sub).seq h2, by rw [r.length, r2.length]; omega⟩,
  fun i F A H x H' hl y R e => by
    obtain ⟨t, v, w, rfl, hn, rfl, h3, h4⟩ := y
    obtain ⟨d, h5, h6⟩ := r.getV (h3 vs ((e.trans R.sub).seq h))
    obtain ⟨c, h7, h8⟩ := r2.getV (h4 ws ((e.trans R.sub).seq h2))
    have g := R.goF (u := .tup [v, w]) hn trivial
    exact ⟨_, _, pairL_get h5 h7, g, .tup (.of upd_same) (.cons ((h6.mono e).mono g.ext) (.cons ((h8.mono e).mono g.ext) .nil))⟩⟩
theorem Src.zipT {K : PySem.W.Frag} {a b : Addr} {vs ws : List V} {xs ys : List D} {F0 : Hp} (h : SqT K F0 a vs) (h2 : SqT K F0 b ws) (r : Reps K F0 vs xs) (r2 : Reps K F0 ws ys) : Src K T (RZ.ItzT K a b) F0 (pairL xs ys) :=
  ⟨fun i F A H hi R e => by
    rw [pairL_length] at hi
    obtain ⟨v, h3, _⟩ := r.get (i := i) (List.getElem?_eq_getElem (by omega))
    obtain ⟨w, h4, _⟩ := r2.get (i := i) (List.getElem?_eq_getElem (by omega))
    exact ⟨vs, ws, v, w, sqT_mono (e.trans R.sub) h, sqT_mono (e.trans R.sub) h2, h3, h4⟩,
  fun i F A H hi R e => by
    rw [pairL_length] at hi
    exact ⟨vs, ws, sqT_mono (e.trans R.sub) h, sqT_mono (e.trans R.sub) h2, by rw [r.length, r2.length]; omega⟩,
  fun i F A H x H' hl y R e => by
    obtain ⟨t, v, w, rfl, hn, rfl, h3, h4⟩ := y
    obtain ⟨d, h5, h6⟩ := r.getV (h3 vs (sqT_mono (e.trans R.sub) h))
    obtain ⟨c, h7, h8⟩ := r2.getV (h4 ws (sqT_mono (e.trans R.sub) h2))
    have g := R.goF (u := .tup [v, w]) hn trivial
    exact ⟨_, _, pairL_get h5 h7, g, .tup (.of upd_same) (.cons ((h6.mono e).mono g.ext) (.cons ((h8.mono e).mono g.ext) .nil))⟩⟩
theorem piq_zip {elts : List Expr} {kk : Nat} {tpos : Pos} (hm : X.mg "zip" = none) (ha : PAQ X T [a, b] t) (hg : Gl X "zip" := by rfl) (hs : starEach [a, b] X.env = (false, eval a X.env) :: starEach [b] X.env := by rfl) (hpl : (backTo pos (starEach [b] X.env)).any (·.1) = false := by rfl) :
    PIQ X T (.Tuple elts kk tpos) (.Call (.Name "zip" p) [a, b] [] pos) (qZip t) := ⟨⟨fun pins s σ H R I h => by
  obtain ⟨F, A, sl, hsl, hR, P, ht, k⟩ := h
  refine (RZ.pi_zipA hg hm ha.pa hs hpl).run pins s σ H R I ⟨F, A, sl, hsl, hR, _, ht, fun ds A1 vs H1 F1 p1 g1 r1 => ?_⟩
  split at p1
  · rename_i x y
    obtain ⟨v, w, rfl, rx, ry⟩ := reps2 r1
    cases e : zipD x y with
    | none => rw [e] at p1; exact p1.elim
    | some q =>
      rw [e] at p1
      unfold zipD at e
      split at e
      · cases e
        cases rx with
        | tup h1 h2 => cases ry with
          | tup h3 h4 => exact ⟨_, _, _, _, rfl, .inr ⟨sqT_mono g1.rs.sub h1, sqT_mono g1.rs.sub h3, k _ _ _ _ _ p1 g1 (Src.zipT h1 h3 h2 h4)⟩⟩
      · split at e
        · rename_i h1 h2
          cases e
          obtain ⟨a, vs, rfl, h3, h4⟩ := froL_rep rx h1
          obtain ⟨b, ws, rfl, h5, h6⟩ := froL_rep ry h2
          exact ⟨_, _, _, _, rfl, .inl ⟨g1.rs.sub.seq h3, g1.rs.sub.seq h5, k _ _ _ _ _ p1 g1 (Src.zip h3 h5 h4 h6)⟩⟩
        · cases e
  · exact p1.elim⟩⟩

/-! ### methods of lists that may change -/
variable {o : Expr} {to : TQ} {apos cpos : Pos}
/-- a method over data: the object, the arguments -/
abbrev RMQ := D → List D → MH → KQ → Prop
def liftM (K : PySem.W.Frag) (T : Tz) (r : RMQ) : V → List V → Hp → VK → Prop := fun v vs H Q => ∃ F A d ds, Rep K F v d ∧ Reps K F vs ds ∧ RS K T F A H ∧ ∃ P : KQ, r d ds A P ∧ ∀ d A' v H' F', P d A' → Go K T F A H F' A' H' → Rep K F' v d → Q v H'
def qMeth (r : RMQ) (to : TQ) (t : TAQ) : TQ := fun s A P => to s A fun x A1 => isLm A1 x ∧ t s A1 fun xs A2 => r x xs A2 P
where isLm (A : MH) : D → Prop
  | .mut a => ∃ xs, A a = some (.lst xs)
  | _ => False
theorem isLm_ty {K : PySem.W.Frag} {F H : Hp} {A : MH} {v : V} {d : D} (R : RS K T F A H) (r : Rep K F v d) (h : qMeth.isLm A d) : tyV K "list" v H := by
  cases d with
  | «mut» a =>
    obtain ⟨xs, e⟩ := h
    obtain rfl := r.mut_inv
    obtain ⟨vs, h1, _⟩ := (R.mem a _ e).2
    exact .inl ⟨rfl, vs, .of h1⟩
  | _ => exact h.elim
def rAppQ : RMQ := fun x ys A P => match x, ys with
  | .mut a, [y] => match A a with | some (.lst xs) => xs.length < 100000 ∧ P .non (A.set a (.lst (xs ++ [y]))) | _ => False
  | _, _ => False
def rPopQ : RMQ := fun x ys A P => match x, ys with
  | .mut a, [.int i] => match A a with | some (.lst xs) => 0 ≤ i ∧ i < 100000 ∧ okQ (xs[i.toNat]?) fun y => P y (A.set a (.lst (xs.eraseIdx i.toNat))) | _ => False
  | _, _ => False
theorem mq_append : MtR X "list.append" (liftM X.K T rAppQ) := fun pins s σ H x xs v us Q I rx rxs h => by
  obtain ⟨F, A, d, ds, r1, r2, R, P, h1, k⟩ := h
  unfold rAppQ at h1
  split at h1
  · rename_i a y
    split at h1
    · rename_i ys e
      obtain rfl := r1.mut_inv
      obtain ⟨w, rfl, rw⟩ := reps1 r2
      obtain ⟨vs, h2, h3⟩ := (R.mem a _ e).2
      have g := R.goW (u := .lst (vs ++ [w])) (m := .lst (ys ++ [y])) e ⟨_, upd_same, h3.append (.cons rw .nil)⟩
      exact mt_append pins s σ H _ _ v us Q I rx rxs ⟨a, vs, w, rfl, rfl, h2, by rw [h3.length]; exact Evl.sz_lt h1.1, k _ _ _ _ _ h1.2 g .non⟩
    · exact h1.elim
  · exact h1.elim
theorem mq_pop : MtR X "list.pop" (liftM X.K T rPopQ) := fun pins s σ H x xs v us Q I rx rxs h => by
  obtain ⟨F, A, d, ds, r1, r2, R, P, h1, k⟩ := h
  unfold rPopQ at h1
  split at h1
  · rename_i a i
    split at h1
    · rename_i ys e
      obtain ⟨hi, hi2, h1⟩ := h1
      cases ey : ys[i.toNat]? with
      | none => rw [ey] at h1; exact h1.elim
      | some y =>
        rw [ey] at h1
        obtain rfl := r1.mut_inv
        obtain ⟨w, rfl, rw⟩ := reps1 r2
        obtain rfl := rw.int_inv
        obtain ⟨vs, h2, h3⟩ := (R.mem a _ e).2
        obtain ⟨z, h4, h5⟩ := h3.get ey
        have g := R.goW (u := .lst (vs.eraseIdx i.toNat)) (m := .lst (ys.eraseIdx i.toNat)) e ⟨_, upd_same, h3.eraseIdx _⟩
        have hl := (List.getElem?_eq_some_iff.mp h4).1
        refine mt_popAt pins s σ H _ _ v us Q I rx rxs ⟨a, vs, i, i.toNat, z, rfl, rfl, h2, by omega, by omega, ?_, h4, k _ _ _ _ _ h1 g (h5.mono g.ext)⟩
        exact seqIndex_of hi (by omega)
    · exact h1.elim
  · exact h1.elim
theorem lift_meth {K : PySem.W.Frag} {r : RMQ} {t : TAQ} {σ : St} {H : Hp} {Q : VK} (h : lift K T (qMeth r to t) σ H Q) : tBM K "list" (liftM K T r) (lift K T to) (liftA K T t) σ H Q := by
  obtain ⟨F, A, s, hs, hR, P, ht, k⟩ := h
  refine ⟨F, A, s, hs, hR, _, ht, fun x A1 v H1 F1 p1 g1 r1 => ⟨isLm_ty g1.rs r1 p1.1, ?_⟩⟩
  exact ⟨F1, A1, s, hs.mono g1.ext, g1.rs, _, p1.2, fun ds A2 vs H2 F2 p2 g2 r2 => ⟨F2, A2, x, ds, r1.mono g2.ext, r2, g2.rs, P, p2, fun d A' v H' F' p g r => k _ _ _ _ _ p ((g1.trans g2).trans g) r⟩⟩
theorem pq_append (ho : PQ X T o to) (ha : PAQ X T [e] t) (hbase : attributeBase o "append" X.env (eval o X.env) = eval o X.env := by rfl)
    (hfew : ((backTo cpos (starEach [e] X.env)).all (fun x => !x.1) && (backToKw cpos (keywordEach [] X.env)).all (fun x => x.1.isSome) && decide ([e].length + ([] : List Keyword).length + (if ([] : List Keyword).isEmpty then 0 else 1) < 30)) = true := by rfl)
    (hline : (apos.endLine == cpos.line) = true := by rfl) (hs : starEach [e] X.env = (false, eval e X.env) :: starEach [] X.env := by rfl) : PQ X T (.Call (.Attribute o "append" apos) [e] [] cpos) (qMeth rAppQ to t) :=
  ⟨(pe_bm PySem.F.plainAttrs_list PySem.F.slot_list_append PySem.F.type_list_append mq_append ho.pe ha.pa hbase hfew hline hs rfl).wk fun _ _ _ h => lift_meth h⟩
theorem pq_pop (ho : PQ X T o to) (ha : PAQ X T [e] t) (hbase : attributeBase o "pop" X.env (eval o X.env) = eval o X.env := by rfl)
    (hfew : ((backTo cpos (starEach [e] X.env)).all (fun x => !x.1) && (backToKw cpos (keywordEach [] X.env)).all (fun x => x.1.isSome) && decide ([e].length + ([] : List Keyword).length + (if ([] : List Keyword).isEmpty then 0 else 1) < 30)) = true := by rfl)
    (hline : (apos.endLine == cpos.line) = true := by rfl) (hs : starEach [e] X.env = (false, eval e X.env) :: starEach [] X.env := by rfl) : PQ X T (.Call (.Attribute o "pop" apos) [e] [] cpos) (qMeth rPopQ to t) :=
  ⟨(pe_bm PySem.F.plainAttrs_list PySem.F.slot_list_pop PySem.F.type_list_pop mq_pop ho.pe ha.pa hbase hfew hline hs rfl).wk fun _ _ _ h => lift_meth h⟩
end
end Qd


set_option Elab.async false
set_option linter.all false
set_option maxRecDepth 100000
set_option maxHeartbeats 4000000
/-! Second layer, part K: targets of any form; dicts with tuple keys. -/
namespace Qd
open PySem L2

/-! ### targets over data -/
abbrev TGQ := D → SQ → MH → (SQ → MH → Prop) → Prop
abbrev TGsQ := List D → SQ → MH → (SQ → MH → Prop) → Prop
section
variable (K : PySem.W.Frag) (T : Tz)
def liftG (g : TGQ) : TG := fun v σ H Q => ∃ F A s d, Rs K F s σ ∧ RS K T F A H ∧ Rep K F v d ∧ ∃ P : SQ → MH → Prop, g d s A P ∧ ∀ s' A' σ' H' F', P s' A' → Go K T F A H F' A' H' → Rs K F' s' σ' → Q σ' H'
def liftGs (g : TGsQ) : TGs := fun vs σ H Q => ∃ F A s ds, Rs K F s σ ∧ RS K T F A H ∧ Reps K F vs ds ∧ ∃ P : SQ → MH → Prop, g ds s A P ∧ ∀ s' A' σ' H' F', P s' A' → Go K T F A H F' A' H' → Rs K F' s' σ' → Q σ' H'
end
structure PTG (X : Cx) (T : Tz) (tg : Expr) (g : TGQ) : Prop where
  pg : PG X tg (liftG X.K T g)
structure PTGs (X : Cx) (T : Tz) (tg : List Expr) (g : TGsQ) : Prop where
  pg : PGs X tg (liftGs X.K T g)
theorem _root_.L2.PG.wk {X : Cx} {e : Expr} {t u : TG} (h : PG X e t) (w : ∀ v σ H Q, u v σ H Q → t v σ H Q) : PG X e u := ⟨fun pins s σ H v uu Q I r q => h.run pins s σ H v uu Q I r (w _ _ _ _ q)⟩
theorem _root_.L2.PGs.wk {X : Cx} {e : List Expr} {t u : TGs} (h : PGs X e t) (w : ∀ v σ H Q, u v σ H Q → t v σ H Q) : PGs X e u := ⟨fun pins s σ H v uu Q I r q => h.run pins s σ H v uu Q I r (w _ _ _ _ q)⟩
section
variable {X : Cx} {T : Tz} {tg o i e : Expr} {to ti te : TQ} {g : TGQ} {t : TAQ} {pos : Pos}
/-- a plain target -/
def gPl (t : Tgt) : TGQ := fun d s A P => okQ (tset t d s) fun s' => P s' A
theorem ptg_pl {t : Tgt} (h : PGQ X tg t) : PTG X T tg (gPl t) := ⟨h.pg.wk fun v σ H Q h => by
  obtain ⟨F, A, s, d, hs, hR, hr, P, ht, k⟩ := h
  unfold gPl at ht
  cases e : tset t d s with
  | none => rw [e] at ht; exact ht.elim
  | some s' =>
    rw [e] at ht
    exact tg_ok hR t hs hr e fun σ' h1 _ => k _ _ _ _ _ ht hR.go h1⟩
def gNilQ : TGsQ := fun ds s A P => ds = [] ∧ P s A
def gConsQ (g : TGQ) (gs : TGsQ) : TGsQ := fun ds s A P => match ds with | d :: r => g d s A fun s1 A1 => gs r s1 A1 P | [] => False
theorem ptgs_nil : PTGs X T [] gNilQ := ⟨pgs_nil.wk fun v σ H Q h => by
  obtain ⟨F, A, s, d, hs, hR, hr, P, ⟨rfl, ht⟩, k⟩ := h
  cases hr
  exact ⟨rfl, k _ _ _ _ _ ht hR.go hs⟩⟩
theorem ptgs_cons {tgs : List Expr} {gs : TGsQ} (h : PTG X T tg g) (hs : PTGs X T tgs gs) (ha : (assignEach (tg :: tgs) X.env).map (·.2) = assign tg X.env :: (assignEach tgs X.env).map (·.2) := by rfl) : PTGs X T (tg :: tgs) (gConsQ g gs) := ⟨(pgs_cons h.pg hs.pg ha).wk fun v σ H Q h => by
  obtain ⟨F, A, s, ds, hs, hR, hr, P, ht, k⟩ := h
  unfold gConsQ at ht
  split at ht
  · rename_i d r
    cases hr with
    | cons r1 rr =>
      refine ⟨_, _, rfl, F, A, s, d, hs, hR, r1, _, ht, fun s1 A1 σ1 H1 F1 p1 g1 h1 => ?_⟩
      exact ⟨F1, A1, s1, r, h1, g1.rs, rr.mono g1.ext, P, p1, fun s' A' σ' H' F' p g h => k _ _ _ _ _ p (g1.trans g) h⟩
  · exact ht.elim⟩
def gTupQ (n : Nat) (gs : TGsQ) : TGQ := fun d s A P => match d with | .tup ds => ds.length = n ∧ gs ds s A P | _ => False
theorem ptg_tup {tgs : List Expr} {gs : TGsQ} {n k : Nat} (hc : X.calm = true) (h : PTGs X T tgs gs) (hn : (assignEach tgs X.env).length = n := by rfl) (hst : (assignEach tgs X.env).findIdx? (·.1) = none := by rfl) : PTG X T (.Tuple tgs k pos) (gTupQ n gs) := ⟨(pg_tup hc h.pg hn hst).wk fun v σ H Q h => by
  obtain ⟨F, A, s, d, hs, hR, hr, P, ht, k⟩ := h
  unfold gTupQ at ht
  split at ht
  · cases hr with
    | tup h1 h2 => exact ⟨_, _, rfl, sqT_mono hR.sub h1, by rw [h2.length]; exact ht.1, F, A, s, _, hs, hR, h2, P, ht.2, k⟩
  · exact ht.elim⟩
/-- o[i] = v by data -/
abbrev SetQ := D → D → D → MH → (MH → Prop) → Prop
def setL : SetQ := fun o i v A P => match o, i with
  | .mut a, .int j => match A a with | some (.lst xs) => okQ (ixN xs.length j) fun n => P (A.set a (.lst (xs.set n v))) | _ => False
  | _, _ => False
def setD : SetQ := fun o i v A P => match o with
  | .mut a => match A a with | some (.dic kvs) => okQ (keyD i) fun k => kvs.length < 100000 ∧ P (A.set a (.dic (putA kvs k v))) | _ => False
  | _ => False
def gSubQ (to ti : TQ) (st : SetQ) : TGQ := fun v s A P => to s A fun o A1 => ti s A1 fun i A2 => st o i v A2 fun A3 => P s A3
def SetRel (K : PySem.W.Frag) (T : Tz) (st : SetQ) (r : TSet) : Prop := ∀ {F A H o i v ov iv vv} {P : MH → Prop} {Q : Hp → Prop}, RS K T F A H → Rep K F ov o → Rep K F iv i → Rep K F vv v → st o i v A P → (∀ A' H' F', P A' → Go K T F A H F' A' H' → Q H') → r ov iv vv H Q
theorem setRel_L {K : PySem.W.Frag} : SetRel K T setL rSetL := by
  intro F A H o i v ov iv vv P Q R ro ri rv h k
  unfold setL at h
  split at h
  · rename_i a j
    split at h
    · rename_i xs e
      cases en : ixN xs.length j with
      | none => rw [en] at h; exact h.elim
      | some n =>
        rw [en] at h
        obtain rfl := ro.mut_inv
        obtain rfl := ri.int_inv
        obtain ⟨vs, h2, h3⟩ := (R.mem a _ e).2
        have g := R.goW (u := .lst (vs.set n vv)) (m := .lst (xs.set n v)) e ⟨_, upd_same, h3.set rv n⟩
        exact ⟨a, vs, j, n, rfl, rfl, h2, by rw [h3.length]; exact en, k _ _ _ h g⟩
    · exact h.elim
  · exact h.elim
theorem setRel_D {K : PySem.W.Frag} : SetRel K T setD rSetD := by
  intro F A H o i v ov iv vv P Q R ro ri rv h k
  unfold setD at h
  split at h
  · rename_i a
    split at h
    · rename_i kvs e
      cases en : keyD i with
      | none => rw [en] at h; exact h.elim
      | some kk =>
        rw [en] at h
        obtain ⟨hz, h⟩ := h
        obtain rfl := ro.mut_inv
        obtain rfl := keyD_rep ri en
        obtain ⟨ps, h2, h3⟩ := (R.mem a _ e).2
        have g := R.goW (u := .dK (putK ps kk vv)) (m := .dic (putA kvs kk v)) e ⟨_, upd_same, (h3.a.put rv).kv⟩
        exact ⟨a, _, rfl, .inl ⟨ps, kk, h2, rfl, by rw [h3.length]; exact Evl.sz_lt hz, rfl⟩, k _ _ _ h g⟩
    · exact h.elim
  · exact h.elim
theorem ptg_sub {st : SetQ} {r : TSet} (rel : SetRel X.K T st r) (hp : PSet X r) (ho : PQ X T o to) (hi : PQ X T i ti)
    (ha : ∀ v, assign (.Subscript o i pos) X.env v = (do
      let ov ← holding [v] (eval o X.env)
      let iv ← holding [v, ov] (eval i X.env)
      standAt pos
      holding [v, ov, iv] (setItem ov iv v)
      release [v, ov, iv] []) := by intro _; rfl) : PTG X T (.Subscript o i pos) (gSubQ to ti st) := ⟨(pg_sub ho.pe hi.pe hp ha).wk fun v σ H Q h => by
  obtain ⟨F, A, s, d, hs, hR, hr, P, ht, k⟩ := h
  refine ⟨F, A, s, hs, hR, _, ht, fun x A1 xv H1 F1 p1 g1 r1 => ?_⟩
  refine ⟨F1, A1, s, hs.mono g1.ext, g1.rs, _, p1, fun y A2 yv H2 F2 p2 g2 r2 => ?_⟩
  exact rel g2.rs (r1.mono g2.ext) r2 (hr.mono (g1.trans g2).ext) p2 fun A' H' F' p g => k _ _ _ _ _ p ((g1.trans g2).trans g) (hs.mono ((g1.trans g2).trans g).ext)⟩
/-- target = e -/
def qAsgG (te : TQ) (g : TGQ) : TSQ := fun D s A => te s A fun d A1 => g d s A1 D.nx
theorem psq_asgG (he : PQ X T e te) (hg : PTG X T tg g) (hs : swapsWithSole [tg] e pos.line X.env = pure false := by rfl) (hw : swappedStores [tg] e X.env = pure none := by rfl)
    (h1 : (assignEach [tg] X.env).map (·.2) = [assign tg X.env] := by rfl) : PSQ X T (.Assign [tg] e pos) (qAsgG te g) := ⟨(ps_asg he.pe hg.pg hs hw h1).wk fun D σ H h => by
  obtain ⟨F, A, s, hs, hR, D2, ht, k⟩ := h
  refine ⟨F, A, s, hs, hR, _, ht, fun d A1 v H1 F1 p1 g1 r1 => ?_⟩
  exact ⟨F1, A1, s, d, hs.mono g1.ext, g1.rs, r1, _, p1, fun s' A' σ' H' F' p g h => k.nx _ _ _ _ _ p (g1.trans g) h⟩⟩

/-! ### dicts with tuple keys -/
def keysT : List D → Option (List Key)
  | [] => some []
  | d :: r => match keyD d, keysT r with | some k, some ks => some (k :: ks) | _, _ => none
theorem keysT_rep {K : PySem.W.Frag} {F : Hp} : ∀ {ds : List D} {vs : List V} {ks : List Key}, Reps K F vs ds → keysT ds = some ks → vs = ks.map kV
  | [], _, ks, .nil, h => by simp only [keysT, Option.some.injEq] at h; subst h; rfl
  | d :: ds, _, ks, .cons r rr, h => by
    simp only [keysT] at h
    split at h
    · rename_i k ks' h1 h2
      simp only [Option.some.injEq] at h; subst h
      rw [keyD_rep r h1, keysT_rep rr h2] <;> rfl
    · cases h
def ditD (A : MH) : D → Option (List (List Key × D))
  | .mut a => match A a with | some (.dit kvs) => some kvs | _ => none
  | _ => none
/-- d[a, b] -/
def qTGet (td : TQ) (t : TAQ) : TQ := fun s A P => td s A fun x A1 => t s A1 fun ys A2 => ys.length ≤ 100000 ∧ okQ (ditD A2 x) fun kvs => okQ (keysT ys) fun k => okQ (getA kvs k) fun d => P d A2
theorem pq_tget {es : List Expr} {k : Nat} {p2 : Pos} (hu : X.A.units + 1 < cLine) (ho : PQ X T o to) (hi : PAQ X T es t) (hs : NoSl (.Tuple es k p2)) : PQ X T (.Subscript o (.Tuple es k p2) pos) (qTGet to t) := ⟨(pe_dget hu ho.pe (pe_tup hi.pa) hs).wk fun σ H Q h => by
  obtain ⟨F, A, s, hs, hR, P, ht, k⟩ := h
  refine ⟨F, A, s, hs, hR, _, ht, fun x A1 xv H1 F1 p1 g1 r1 => ?_⟩
  refine ⟨F1, A1, s, hs.mono g1.ext, g1.rs, _, p1, fun ys A2 vs H2 F2 p2 g2 r2 => ⟨by rw [r2.length]; exact Evl.sz_of p2.1, fun p hp => ?_⟩⟩
  replace p2 := p2.2
  cases e1 : ditD A2 x with
  | none => rw [e1] at p2; exact p2.elim
  | some kvs =>
    rw [e1] at p2
    cases e2 : keysT ys with
    | none => rw [e2] at p2; exact p2.elim
    | some kk =>
      rw [e2] at p2
      simp only [okQ_some] at p2
      cases e3 : getA kvs kk with
      | none => rw [e3] at p2; exact p2.elim
      | some d =>
        rw [e3] at p2
        unfold ditD at e1
        split at e1
        · rename_i a
          split at e1
          · rename_i kvs' e
            cases e1
            obtain rfl := r1.mut_inv
            obtain ⟨ps, h2, h3⟩ := (g2.rs.mem a _ e).2
            obtain ⟨v, h5, h6⟩ := h3.a.get e3
            have g3 := g2.rs.goB (u := .tup vs) hp
            refine ⟨a, v, rfl, .inr ⟨ps, kk, p, .inl ((upd_ne (ne_of_none h2 hp)).trans h2), rfl, ?_, h5.symm⟩, k _ _ _ _ _ p2 ((g1.trans g2).trans g3) h6⟩
            rw [← keysT_rep r2 e2]
            exact upd_same
          · cases e1
        · cases e1⟩
/-- d[a, b] = v -/
def gSubT (td : TQ) (t : TAQ) : TGQ := fun v s A P => td s A fun x A1 => t s A1 fun ys A2 => ys.length ≤ 100000 ∧ match x with
  | .mut a => match A2 a with | some (.dit kvs) => okQ (keysT ys) fun k => kvs.length < 100000 ∧ P s (A2.set a (.dit (putA kvs k v))) | _ => False
  | _ => False
theorem ptg_subT {es : List Expr} {k : Nat} {p2 : Pos} (hu : X.A.units + 1 < cLine) (ho : PQ X T o to) (hi : PAQ X T es t)
    (ha : ∀ v, assign (.Subscript o (.Tuple es k p2) pos) X.env v = (do
      let ov ← holding [v] (eval o X.env)
      let iv ← holding [v, ov] (eval (.Tuple es k p2) X.env)
      standAt pos
      holding [v, ov, iv] (setItem ov iv v)
      release [v, ov, iv] []) := by intro _; rfl) : PTG X T (.Subscript o (.Tuple es k p2) pos) (gSubT to t) := ⟨(pg_sub ho.pe (pe_tup hi.pa) (set_dict hu) ha).wk fun v σ H Q h => by
  obtain ⟨F, A, s, d, hs, hR, hr, P, ht, k⟩ := h
  refine ⟨F, A, s, hs, hR, _, ht, fun x A1 xv H1 F1 p1 g1 r1 => ?_⟩
  refine ⟨F1, A1, s, hs.mono g1.ext, g1.rs, _, p1, fun ys A2 vs H2 F2 p2 g2 r2 => ⟨by rw [r2.length]; exact Evl.sz_of p2.1, fun p hp => ?_⟩⟩
  replace p2 := p2.2
  split at p2
  · rename_i a
    split at p2
    · rename_i kvs e
      cases e2 : keysT ys with
      | none => rw [e2] at p2; exact p2.elim
      | some kk =>
        rw [e2] at p2
        obtain ⟨hz, p2⟩ := p2
        obtain rfl := r1.mut_inv
        obtain ⟨ps, h2, h3⟩ := (g2.rs.mem a _ e).2
        have g3 := g2.rs.goB (u := .tup vs) hp
        obtain ⟨ps', h4, h5⟩ := (g3.rs.mem a _ e).2
        have hne : a ≠ p := ne_of_none h2 hp
        have eps : ps' = ps := by rw [upd_ne hne, h2] at h4; cases h4; rfl
        subst eps
        have g4 := g3.rs.goW (u := .dT (putK ps' kk v)) (m := .dit (putA kvs kk d)) e ⟨_, upd_same, (h5.a.put ((hr.mono (g1.trans g2).ext))).kt⟩
        have gg := ((g1.trans g2).trans g3).trans g4
        refine ⟨a, _, rfl, .inr ⟨ps', kk, p, h4, rfl, ?_, by rw [h5.a.len]; exact Evl.sz_lt hz, rfl⟩, k _ _ _ _ _ p2 gg (hs.mono gg.ext)⟩
        rw [← keysT_rep r2 e2]
        exact upd_same
    · exact p2.elim
  · exact p2.elim⟩
/-- {}, to hold tuple keys; to hold ints and texts -/
def qNewT : TQ := fun _ A P => ∀ a, A a = none → P (.mut a) (A.set a (.dit []))
def qNewK : TQ := fun _ A P => ∀ a, A a = none → P (.mut a) (A.set a (.dic []))
theorem pq_newT : PQ X T (.Dict [] [] pos) qNewT := ⟨pe_dnewT.wk fun σ H Q h => by
  obtain ⟨F, A, s, hs, hR, P, ht, k⟩ := h
  intro p hp
  exact k _ _ _ _ F (ht p (hR.free hp).2) (hR.goM hp ⟨[], upd_same, .nil⟩) (.mut p)⟩
theorem pq_newK : PQ X T (.Dict [] [] pos) qNewK := ⟨pe_dnewK.wk fun σ H Q h => by
  obtain ⟨F, A, s, hs, hR, P, ht, k⟩ := h
  intro p hp
  exact k _ _ _ _ F (ht p (hR.free hp).2) (hR.goM hp ⟨[], upd_same, .nil⟩) (.mut p)⟩
end
end Qd


set_option Elab.async false
set_option linter.all false
set_option maxRecDepth 100000
set_option maxHeartbeats 4000000
/-! Second layer, part L: defs, calls, exceptions. -/
namespace Qd
open PySem L2

/-- a def's promise over data -/
def liftSp (K : PySem.W.Frag) (r : RNQ) : Sp := fun vs H Q E => ∃ tb F A ds, Reps K F vs ds ∧ RS0 K tb F A H ∧ ∃ P : KQ, r ds A P ∧ ∀ d A' v H' F', P d A' → Go0 K tb F A H F' A' H' → Rep K F' v d → Q v H'
/-- .. that may raise -/
abbrev RXQ := List D → MH → KQ → XKQ → Prop
def liftSpX (K : PySem.W.Frag) (r : RXQ) : Sp := fun vs H Q E => ∃ tb F A ds, Reps K F vs ds ∧ RS0 K tb F A H ∧ ∃ (P : KQ) (x2 : XKQ), r ds A P x2 ∧ (∀ d A' v H' F', P d A' → Go0 K tb F A H F' A' H' → Rep K F' v d → Q v H') ∧
  ∀ C fs d A' H' F', x2 C fs A' → Go0 K tb F A H F' A' H' → XD K F' d fs → E (.ref C) d H'
theorem liftSp_len {K : PySem.W.Frag} {n : Nat} {r : RNQ} (h : ∀ ds A P, r ds A P → ds.length = n) : ∀ vs H Q E, liftSp K r vs H Q E → vs.length = n := fun vs H Q E ⟨tb, F, A, ds, h1, _, P, h2, _⟩ => by rw [h1.length]; exact h _ _ _ h2
theorem liftSpX_len {K : PySem.W.Frag} {n : Nat} {r : RXQ} (h : ∀ ds A P x2, r ds A P x2 → ds.length = n) : ∀ vs H Q E, liftSpX K r vs H Q E → vs.length = n := fun vs H Q E ⟨tb, F, A, ds, h1, _, P, x2, h2, _⟩ => by rw [h1.length]; exact h _ _ _ _ h2
/-- its parameters stand so in the text -/
def IsFn (fd : FuncData) (ar : Arguments) : Prop := ∃ (x qual : Str) (body : List Stmt) (scope : Scope) (kV doc pm : Value) (an : Option Addr) (cdv ct : Value), fd = PySem.W.fnOf x qual ar body scope .none kV doc pm an cdv ct
/-- what a caller knows of a def -/
structure Def (P : Program) (w : World) (K : PySem.W.Frag) (mg : Str → Option Value) (base : Heap) (k : Nat) (x : Str) (ar : Arguments) (ps : List Str) (r : RNQ) : Prop where
  is : ∃ f fd, FnOk P w K mg base CX0 k f fd ps (liftSp K r) ∧ mg x = some (.ref f) ∧ PySem.W.keepIn K (.ref f) = true ∧ Binds K fd ps [] ∧ IsFn fd ar
structure DefX (P : Program) (w : World) (K : PySem.W.Frag) (mg : Str → Option Value) (base : Heap) (k : Nat) (x : Str) (ar : Arguments) (ps : List Str) (r : RXQ) : Prop where
  is : ∃ f fd, FnOk P w K mg base (L2.CX P w) k f fd ps (liftSpX K r) ∧ mg x = some (.ref f) ∧ PySem.W.keepIn K (.ref f) = true ∧ Binds K fd ps [] ∧ IsFn fd ar
theorem Def.mono {P : Program} {w : World} {K : PySem.W.Frag} {mg : Str → Option Value} {base : Heap} {j k : Nat} {x : Str} {ar : Arguments} {ps : List Str} {r : RNQ} (G : Def P w K mg base j x ar ps r) (h : j ≤ k) : Def P w K mg base k x ar ps r := by
  obtain ⟨f, fd, F, q⟩ := G.is
  exact ⟨f, fd, F.mono h, q⟩
theorem DefX.mono {P : Program} {w : World} {K : PySem.W.Frag} {mg : Str → Option Value} {base : Heap} {j k : Nat} {x : Str} {ar : Arguments} {ps : List Str} {r : RXQ} (G : DefX P w K mg base j x ar ps r) (h : j ≤ k) : DefX P w K mg base k x ar ps r := by
  obtain ⟨f, fd, F, q⟩ := G.is
  exact ⟨f, fd, F.mono h, q⟩
section
variable {X : Cx} {T : Tz} {k : Nat} {ar : Arguments} {ps : List Str} {n : Nat} {r : RNQ} {rx : RXQ} {x : Str} {p pos : Pos} {e : Expr} {es : List Expr} {t : TAQ}
theorem lift_call {K : PySem.W.Frag} {σ : St} {H : Hp} {Q : VK} {E : XK} (h : lift K T (qCB r t) σ H Q) : tCall (liftSp K r) [] E (liftA K T t) σ H Q := by
  obtain ⟨F, A, s, hs, hR, P, ht, k⟩ := h
  refine ⟨F, A, s, hs, hR, _, ht, fun ds A1 vs H1 F1 p1 g1 r1 => ?_⟩
  show liftSp K r (vs ++ []) H1 Q E
  rw [List.append_nil]
  exact ⟨T.tb, F1, A1, ds, r1, g1.rs.r0, P, p1, fun d A' v H' F' p g r => k _ _ _ _ _ p (g1.trans (g1.rs.to g)) r⟩
/-- f(e, ..) -/
theorem pq_fn (G : Def X.prog X.w X.K X.mg X.base k x ar ps r) (hr : Room k X.A) (ha : PAQ X T (e :: es) t) (hg : Gl X x := by rfl) (hdb : (x == ("__debug__" : Str)) = false := by decide)
    (he : starEach (e :: es) X.env = (false, eval e X.env) :: starEach es X.env := by rfl) (hpl : (backTo pos (starEach es X.env)).any (·.1) = false := by rfl) : PQ X T (.Call (.Name x p) (e :: es) [] pos) (qCB r t) := by
  obtain ⟨f, fd, F, hm, hk, hb, _⟩ := G.is
  exact ⟨(pe_call F hr hg hm hk hb .nil pass0 ha.pa hdb he hpl).wk fun _ _ _ h => lift_call h⟩
theorem pq_fn0 (G : Def X.prog X.w X.K X.mg X.base k x ar ps r) (hr : Room k X.A) (hg : Gl X x := by rfl) (hdb : (x == ("__debug__" : Str)) = false := by decide) : PQ X T (.Call (.Name x p) [] [] pos) (qCB r qNil) := by
  obtain ⟨f, fd, F, hm, hk, hb, _⟩ := G.is
  exact ⟨(pe_call0 F hr hg hm hk hb .nil pass0 hdb).wk fun σ H Q h => by
    obtain ⟨F, A, s, hs, hR, P, ht, k⟩ := h
    exact ⟨T.tb, F, A, [], .nil, hR.r0, P, ht, fun d A' v H' F' p g r => k _ _ _ _ _ p (hR.to g) r⟩⟩
/-- f(e, ..) that may raise -/
def qCX (T : Tz) (r : RXQ) (t : TAQ) : TQ := fun s A P => t s A fun xs A1 => r xs A1 P T.x2
theorem lift_callX {K : PySem.W.Frag} {σ : St} {H : Hp} {Q : VK} (h : lift K T (qCX T rx t) σ H Q) : tCall (liftSpX K rx) [] T.xe (liftA K T t) σ H Q := by
  obtain ⟨F, A, s, hs, hR, P, ht, k⟩ := h
  refine ⟨F, A, s, hs, hR, _, ht, fun ds A1 vs H1 F1 p1 g1 r1 => ?_⟩
  show liftSpX K rx (vs ++ []) H1 Q T.xe
  rw [List.append_nil]
  exact ⟨T.tb, F1, A1, ds, r1, g1.rs.r0, P, T.x2, p1, fun d A' v H' F' p g r => k _ _ _ _ _ p (g1.trans (g1.rs.to g)) r, fun C fs d A' H' F' px g xd => g1.rs.xr.2 C fs d A' H' F' px g xd⟩
theorem pq_fnX (G : DefX X.prog X.w X.K X.mg X.base k x ar ps rx) (hr : Room k X.A) (hx : Passes (L2.CX X.prog X.w) X T.xe) (ha : PAQ X T (e :: es) t) (hg : Gl X x := by rfl) (hdb : (x == ("__debug__" : Str)) = false := by decide)
    (he : starEach (e :: es) X.env = (false, eval e X.env) :: starEach es X.env := by rfl) (hpl : (backTo pos (starEach es X.env)).any (·.1) = false := by rfl) : PQ X T (.Call (.Name x p) (e :: es) [] pos) (qCX T rx t) := by
  obtain ⟨f, fd, F, hm, hk, hb, _⟩ := G.is
  exact ⟨(pe_call F hr hg hm hk hb .nil hx ha.pa hdb he hpl).wk fun _ _ _ h => lift_callX h⟩
/-! ### keywords only: f(k = e, ..) -/
structure PKQ (X : Cx) (T : Tz) (kws : List Keyword) (t : TAQ) : Prop where
  pk : PK X kws (liftA X.K T t)
theorem _root_.L2.PK.wk {X : Cx} {e : List Keyword} {t u : TA} (h : PK X e t) (w : ∀ σ H Q, u σ H Q → t σ H Q) : PK X e u := ⟨fun pos pins s σ H Q I q => h.run pos pins s σ H Q I (w _ _ _ q)⟩
theorem pkq_nil : PKQ X T [] qNil := ⟨pk_nil.wk fun _ _ _ h => lift_nil h⟩
theorem pkq_cons {kws : List Keyword} {nm : Option Str} {kpos : Pos} {te : TQ} (ha : PQ X T e te) (hr : PKQ X T kws t) : PKQ X T (⟨nm, e, kpos⟩ :: kws) (qCons te t) := ⟨(pk_cons ha.pe hr.pk).wk fun _ _ _ h => lift_cons h⟩
/-- how the keywords' values stand among the parameters: at place i of the parameters the keyword perm[i] -/
def pick {α : Type} (perm : List Nat) (zs : List α) : List α := perm.filterMap fun i => zs[i]?
theorem pick_vals : ∀ (perm : List Nat) {zs : List V} {ws : List Value}, Vals zs ws → Vals (pick perm zs) (pick perm ws)
  | [], _, _, _ => .nil
  | i :: perm, zs, ws, r => by
    have ih := pick_vals perm r
    unfold pick at *
    rw [List.filterMap_cons, List.filterMap_cons]
    cases h : zs[i]? with
    | none =>
      have h2 : ws[i]? = none := by
        have := List.getElem?_eq_none_iff.mp h
        exact List.getElem?_eq_none (by rw [← r.length]; exact this)
      rw [h2]; exact ih
    | some v =>
      obtain ⟨u, hu, ru⟩ := r.get h
      rw [hu]; exact .cons ru ih
theorem pick_reps {K : PySem.W.Frag} {F : Hp} : ∀ (perm : List Nat) {vs : List V} {ds : List D}, Reps K F vs ds → Reps K F (pick perm vs) (pick perm ds)
  | [], _, _, _ => .nil
  | i :: perm, vs, ds, r => by
    have ih := pick_reps perm r
    unfold pick at *
    rw [List.filterMap_cons, List.filterMap_cons]
    cases h : ds[i]? with
    | none =>
      have h2 : vs[i]? = none := by
        have := List.getElem?_eq_none_iff.mp h
        exact List.getElem?_eq_none (by rw [r.length]; exact this)
      rw [h2]; exact ih
    | some v =>
      obtain ⟨u, hu, ru⟩ := r.get h
      rw [hu]; exact .cons ru ih
/-- the keywords ks bind: h is by a look at the parameters -/
def KwOk (ar : Arguments) (ps ks : List Str) (perm : List Nat) : Prop := ∀ (x qual : Str) (body : List Stmt) (scope : Scope) (kV doc pm : Value) (an : Option Addr) (cdv ct : Value) (ws : List Value), (pick perm ws).length = ps.length →
  bindArgs (PySem.W.fnOf x qual ar body scope .none kV doc pm an cdv ct) ⟨[], ks.zip ws⟩ = pure (ps.zip (pick perm ws))
theorem kbinds_of {K : PySem.W.Frag} {fd : FuncData} {ks : List Str} {perm : List Nat} (hps : ps ≠ []) (h : KwOk ar ps ks perm) (i : IsFn fd ar) : KBinds K fd ps ks (fun us ws => if us = [] then pick perm ws else []) (fun vs zs => if vs = [] then pick perm zs else []) := by
  obtain ⟨x, qual, body, scope, kV, doc, pm, an, cdv, ct, rfl⟩ := i
  refine ⟨fun s us ws X hl => ?_, fun {vs us zs ws} r rz => ?_⟩
  · cases us with
    | nil =>
      rw [if_pos rfl] at hl ⊢
      exact .of_eq (h x qual body scope kV doc pm an cdv ct ws hl)
    | cons u us =>
      rw [if_neg (by simp)] at hl
      exact absurd (List.length_eq_zero_iff.mp hl.symm) hps
  · cases r with
    | nil => rw [if_pos rfl, if_pos rfl]; exact pick_vals perm rz
    | cons _ _ => rw [if_neg (by simp), if_neg (by simp)]; exact .nil
def qKw (r : RNQ) (perm : List Nat) (t : TAQ) : TQ := fun s A P => t s A fun xs A1 => r (pick perm xs) A1 P
def qKwX (T : Tz) (r : RXQ) (perm : List Nat) (t : TAQ) : TQ := fun s A P => t s A fun xs A1 => r (pick perm xs) A1 P T.x2
theorem pe_kw0 {CX : CXT} {f : Addr} {fd : FuncData} {sp : Sp} {E : XK} {kws : List Keyword} {tk : TA} {ks : List Str} {g : List Value → List Value → List Value} {gV : List V → List V → List V} (F : FnOk X.prog X.w X.K X.mg X.base CX k f fd ps sp) (hr : Room k X.A) (hg : Gl X x) (hm : X.mg x = some (.ref f)) (hk : PySem.W.keepIn X.K (.ref f) = true) (hb : KBinds X.K fd ps ks g gV) (hx : Passes CX X E)
    (hkw : PK X kws tk) (hall : (backToKw pos (keywordEach kws X.env)).all (·.1.isSome) = true) (hks : (backToKw pos (keywordEach kws X.env)).filterMap (·.1) = ks) (hdb : (x == ("__debug__" : Str)) = false)
    (hpl : ((backTo pos (starEach [] X.env)).any (·.1) || (backToKw pos (keywordEach kws X.env)).any (·.1.isNone)) = false) : PE X (.Call (.Name x p) [] kws pos) (fun σ H Q => tk σ H fun zs H1 => sp (gV [] zs) H1 Q E) := by
  refine ⟨fun pins s σ H Q I h => ?_⟩
  refine wpAny_Call_Name_kw (ld_glob I hg hm ?_ hdb)
  refine PySem.W.callWith_KW0 (h₀ := X.base) I.ok.mod.kin hk hall (thn (hkw.run pos pins s σ H _ I h) fun ws s2 ⟨zs, H2, I2, rz, q2⟩ => ⟨I2.kIn, ?_⟩) hpl
  rw [hks]
  exact run_fnk F hr hb hx I2 .nil rz q2
theorem pq_kw {kws : List Keyword} {ks : List Str} {perm : List Nat} (G : Def X.prog X.w X.K X.mg X.base k x ar ps r) (hr : Room k X.A) (hkw : PKQ X T kws t) (hko : KwOk ar ps ks perm) (hps : ps ≠ [] := by simp) (hks : (backToKw pos (keywordEach kws X.env)).filterMap (·.1) = ks := by rfl) (hg : Gl X x := by rfl)
    (hall : (backToKw pos (keywordEach kws X.env)).all (·.1.isSome) = true := by rfl) (hdb : (x == ("__debug__" : Str)) = false := by decide)
    (hpl : ((backTo pos (starEach [] X.env)).any (·.1) || (backToKw pos (keywordEach kws X.env)).any (·.1.isNone)) = false := by rfl) : PQ X T (.Call (.Name x p) [] kws pos) (qKw r perm t) := by
  obtain ⟨f, fd, F, hm, hk, hb, hi⟩ := G.is
  exact ⟨(pe_kw0 F hr hg hm hk (kbinds_of hps hko hi) pass0 hkw.pk hall hks hdb hpl).wk fun σ H Q h => by
    obtain ⟨F, A, s, hs, hR, P, ht, k⟩ := h
    refine ⟨F, A, s, hs, hR, _, ht, fun ds A1 vs H1 F1 p1 g1 r1 => ?_⟩
    show liftSp X.K r (if ([] : List V) = [] then pick perm vs else []) H1 Q E0
    rw [if_pos rfl]
    exact ⟨T.tb, F1, A1, _, pick_reps perm r1, g1.rs.r0, P, p1, fun d A' v H' F' p g r => k _ _ _ _ _ p (g1.trans (g1.rs.to g)) r⟩⟩
theorem pq_kwX {kws : List Keyword} {ks : List Str} {perm : List Nat} (G : DefX X.prog X.w X.K X.mg X.base k x ar ps rx) (hr : Room k X.A) (hx : Passes (L2.CX X.prog X.w) X T.xe) (hkw : PKQ X T kws t) (hko : KwOk ar ps ks perm) (hps : ps ≠ [] := by simp) (hks : (backToKw pos (keywordEach kws X.env)).filterMap (·.1) = ks := by rfl) (hg : Gl X x := by rfl)
    (hall : (backToKw pos (keywordEach kws X.env)).all (·.1.isSome) = true := by rfl) (hdb : (x == ("__debug__" : Str)) = false := by decide)
    (hpl : ((backTo pos (starEach [] X.env)).any (·.1) || (backToKw pos (keywordEach kws X.env)).any (·.1.isNone)) = false := by rfl) : PQ X T (.Call (.Name x p) [] kws pos) (qKwX T rx perm t) := by
  obtain ⟨f, fd, F, hm, hk, hb, hi⟩ := G.is
  exact ⟨(pe_kw0 F hr hg hm hk (kbinds_of hps hko hi) hx hkw.pk hall hks hdb hpl).wk fun σ H Q h => by
    obtain ⟨F, A, s, hs, hR, P, ht, k⟩ := h
    refine ⟨F, A, s, hs, hR, _, ht, fun ds A1 vs H1 F1 p1 g1 r1 => ?_⟩
    show liftSpX X.K rx (if ([] : List V) = [] then pick perm vs else []) H1 Q T.xe
    rw [if_pos rfl]
    exact ⟨T.tb, F1, A1, _, pick_reps perm r1, g1.rs.r0, P, T.x2, p1, fun d A' v H' F' p g r => k _ _ _ _ _ p (g1.trans (g1.rs.to g)) r, fun C fs d A' H' F' px g xd => g1.rs.xr.2 C fs d A' H' F' px g xd⟩⟩
end
section
variable {X : Cx} {T : Tz} {k : Nat} {ar : Arguments} {ps : List Str} {n : Nat} {r : RNQ} {rx : RXQ} {x : Str} {p pos : Pos} {e : Expr} {es : List Expr} {t : TAQ}
/-- a context that lets nothing out -/
theorem pass_nox {X : Cx} {CX : CXT} {T : Tz} (h : ∀ e s, ¬ X.xe e s) (hx : T.xe = fun _ _ _ => False) : Passes (L2.CX X.prog X.w) X T.xe := by
  rw [hx]
  intro pins σ H s e s' I c
  obtain ⟨_, _, _, _, _, _, _, _, _, _, _, _, z⟩ := c
  exact z.elim
end
/-! ### a def by its body -/
def startQ (N : List Str) (ds : List D) : SQ := ds.map some ++ List.replicate (N.length - ds.length) none
theorem start_rep {K : PySem.W.Frag} {F : Hp} {N : List Str} {vs : List V} {ds : List D} (r : Reps K F vs ds) : Rs K F (startQ N ds) (L2.start N vs) := by
  unfold startQ L2.start
  rw [r.length]
  have tl : ∀ n : Nat, Rs K F (List.replicate n none) (List.replicate n none) := fun n => by
    induction n with
    | zero => exact .nil
    | succ n ih => exact .no ih
  generalize N.length - ds.length = m
  have go : ∀ {vs : List V} {ds : List D}, Reps K F vs ds → Rs K F (ds.map some ++ List.replicate m none) (vs.map some ++ List.replicate m none) := by
    intro vs
    induction vs with
    | nil => intro ds r; cases r; exact tl m
    | cons v vs ih => intro ds r; cases r with | cons a b => exact .yes a (ih b)
  exact go r
section
variable {P : Program} {w : World} {K : PySem.W.Frag} {mg : Str → Option Value} {base : Heap}
theorem def_ok {x qual : Str} {st : Stmt} {f : Addr} {fd : FuncData} {N ps : List Str} {k : Nat} {r : RNQ} (F : Fun K x qual st f fd) (S : FnScope N ps (defScope st)) (len : ∀ ds A P, r ds A P → ds.length = ps.length)
    (hbody : ∀ (cdv : Value) (A : Around) (outer : List Env) (s : Shared) (H : Hp) (E : XK) (tb : List (Addr × Str)), Room k (A.deeper (PyProof.Rows.envOfC qual (defScope st) s.heap.objs.size f cdv)) →
      ∃ t, PSsQ (cxOf CX0 P w K mg base N qual (defScope st) f cdv A outer s H E).nox { tb := tb } (defBody st) t ∧ ∀ ds A P, r ds A P → t { nx := fun _ A' => P .non A', rt := P } (startQ N ds) A) :
    FnOk P w K mg base CX0 (k + 1) f fd ps (liftSp K r) := by
  refine F.ok S (liftSp_len len) fun cdv A outer s H vs Q E hr h => ?_
  obtain ⟨tb, F0, A0, ds, h1, h2, PP, h3, h4⟩ := h
  obtain ⟨t, ht, hq⟩ := hbody cdv A outer s H E tb hr
  have hR : RS K { tb := tb } F0 A0 H := ⟨h2, trivial, fun C fs d A' H' F' z => z.elim⟩
  exact ⟨_, ht.ps, F0, A0, startQ N ds, start_rep h1, hR, _, hq ds A0 PP h3, ⟨fun s' A' σ' H' F' p g _ => h4 _ _ _ _ _ p g.g0 .non, fun d A' v H' F' p g rr => h4 _ _ _ _ _ p g.g0 rr, fun _ _ _ _ _ z => z.elim, fun _ _ _ _ _ z => z.elim⟩⟩
theorem def_okX {x qual : Str} {st : Stmt} {f : Addr} {fd : FuncData} {N ps : List Str} {k : Nat} {r : RXQ} (F : Fun K x qual st f fd) (S : FnScope N ps (defScope st)) (len : ∀ ds A P x2, r ds A P x2 → ds.length = ps.length)
    (hbody : ∀ (cdv : Value) (A : Around) (outer : List Env) (s : Shared) (H : Hp) (E : XK) (tb : List (Addr × Str)) (x2 : XKQ), Room k (A.deeper (PyProof.Rows.envOfC qual (defScope st) s.heap.objs.size f cdv)) →
      ∃ t, PSsQ (cxOf (L2.CX P w) P w K mg base N qual (defScope st) f cdv A outer s H E) { tb := tb, xe := E, x2 := x2 } (defBody st) t ∧ ∀ ds A P, r ds A P x2 → t { nx := fun _ A' => P .non A', rt := P } (startQ N ds) A) :
    FnOk P w K mg base (L2.CX P w) (k + 1) f fd ps (liftSpX K r) := by
  refine F.okX S (liftSpX_len len) fun cdv A outer s H vs Q E hr h => ?_
  obtain ⟨tb, F0, A0, ds, h1, h2, PP, x2, h3, h4, h5⟩ := h
  obtain ⟨t, ht, hq⟩ := hbody cdv A outer s H E tb x2 hr
  have hR : RS K { tb := tb, xe := E, x2 := x2 } F0 A0 H := ⟨h2, trivial, h5⟩
  exact ⟨_, ht.ps, F0, A0, startQ N ds, start_rep h1, hR, _, hq ds A0 PP h3, ⟨fun s' A' σ' H' F' p g _ => h4 _ _ _ _ _ p g.g0 .non, fun d A' v H' F' p g rr => h4 _ _ _ _ _ p g.g0 rr, fun _ _ _ _ _ z => z.elim, fun _ _ _ _ _ z => z.elim⟩⟩
/-- in a def that may raise, what it calls may raise the same -/
theorem pass_cx {N : List Str} {qual : Str} {scope : Scope} {f : Addr} {cdv : Value} {A : Around} {outer : List Env} {s : Shared} {H : Hp} {E : XK} : Takes (cxOf (L2.CX P w) P w K mg base N qual scope f cdv A outer s H E) (fun cls d _ H' => E cls d H') :=
  takes_of (E₁ := fun e' s'' => L2.CX P w outer H s E e' s'') rfl rfl rfl rfl
theorem pass_own {N : List Str} {qual : Str} {scope : Scope} {f : Addr} {cdv : Value} {A : Around} {outer : List Env} {s : Shared} {H : Hp} {E : XK} : Passes (L2.CX P w) (cxOf (L2.CX P w) P w K mg base N qual scope f cdv A outer s H E) E := passes_call pass_cx fun _ _ _ _ h => h
end
end Qd


set_option Elab.async false
set_option linter.all false
set_option maxRecDepth 100000
set_option maxHeartbeats 4000000
/-! Second layer, part M: own errors with one field: raise, try, except .. as e. -/
namespace Qd
open PySem L2

/-- __init__(self, f): self.f = f -/
def spInit (C : Addr) (f : Str) : Sp := fun vs H Q _ => ∃ a y, vs = [.ref a, y] ∧ H a = some (exo a C none) ∧ ∀ dx, H dx = none → dx ≠ a → Q .non (upd (upd H dx (exd dx [(f, y)])) a (exo a C (some dx)))
section
variable {P : Program} {w : World} {K : PySem.W.Frag} {mg : Str → Option Value} {base : Heap}
theorem init_ok {x qual : Str} {st : Stmt} {fI C : Addr} {fd : FuncData} {k : Nat} {f : Str} {p1 p2 p3 p4 : Pos} (F : Fun K x qual st fI fd) (S : FnScope ["self", f] ["self", f] (defScope st)) (hb : defBody st = [.Assign [.Attribute (.Name "self" p1) f p2] (.Name f p3) p4])
    (T : OexC K C) (hno : PySem.W.findIn K (.ref C) f = some none) (hv : Vis (defScope st) "self" := by first | exact Or.inl rfl | exact Or.inr (Or.inl rfl)) (hv2 : Vis (defScope st) f := by first | exact Or.inl rfl | exact Or.inr (Or.inl rfl)) (hd : (f == ("__debug__" : Str)) = false := by decide) (hcd : (f == ("__classdict__" : Str)) = false := by decide)
    (hs : ∀ env : Env, swapsWith (.Name f p3) (some (.Attribute (.Name "self" p1) f p2)) p4.line env = pure false := by intro env; rfl) : FnOk P w K mg base CX0 (k + 1) fI fd ["self", f] (spInit C f) := by
  refine F.ok S (fun vs H Q E h => ?_) (fun cdv A outer s H vs Q E hr h => ?_)
  · obtain ⟨a, y, rfl, _⟩ := h; rfl
  · obtain ⟨a, y, rfl, ha, q⟩ := h
    rw [hb]
    refine ⟨_, pss_one (ps_ost (pv 0 rfl hv) (pv 1 rfl hv2 hd hcd) (hs _)), ?_⟩
    exact ⟨y, rfl, .ref a, rfl, a, C, rfl, T, hno, .inl ⟨ha, fun dx h1 h2 => q dx h1 h2⟩⟩
/-- an own error class with one field -/
structure ErrC (P : Program) (w : World) (K : PySem.W.Frag) (mg : Str → Option Value) (base : Heap) (k : Nat) (x : Str) (C : Addr) (f : Str) : Prop where
  oex : OexC K C
  gm : mg x = some (.ref C)
  ini : ∃ fI fd, PySem.W.findIn K (.ref C) "__init__" = some (some (.ref fI)) ∧ PySem.W.typeIn K (.ref fI) = some (.type "function") ∧ FnOk P w K mg base CX0 k fI fd ["self", f] (spInit C f) ∧ Binds K fd ["self", f] []
end
section
variable {X : Cx} {T : Tz} {k : Nat} {x f : Str} {C : Addr} {p pos pos2 : Pos} {e : Expr} {te : TQ}
def qRaise (T : Tz) (C : Addr) (f : Str) (te : TQ) : TSQ := fun _ s A => te s A fun d A1 => T.x2 C [(f, d)] A1
theorem raise_heap {H : Hp} {a dx : Addr} {o1 o2 o3 : HO} (ha : H a = none) (hne : dx ≠ a) : upd (L2.del (upd (upd (upd H a o1) dx o2) a o3) a) dx o3 = upd H dx o3 := by
  funext b
  by_cases h1 : b = dx
  · subst h1; rw [upd_same, upd_same]
  · rw [upd_ne h1, upd_ne h1]
    by_cases h2 : b = a
    · subst h2; rw [L2.del_same, ha]
    · rw [L2.del_ne h2, upd_ne h2, upd_ne h1, upd_ne h2]
theorem psq_raise (G : ErrC X.prog X.w X.K X.mg X.base k x C f) (hc : X.calm = true) (hr : Room (k + 1) X.A) (tk : Takes X (fun cls d _ H => T.xe cls d H)) (he : PQ X T e te) (hg : Gl X x := by rfl) (hdb : (x == ("__debug__" : Str)) = false := by decide)
    (hs : starEach [e] X.env = (false, eval e X.env) :: starEach [] X.env := by rfl) : PSQ X T (.Raise (some (.Call (.Name x p) [e] [] pos)) none pos2) (qRaise T C f te) := by
  obtain ⟨fI, fd, h1, h2, F, hb⟩ := G.ini
  refine ⟨(ps_raise hc tk (pmk_oex (p := p) (pos := pos) G.oex h1 h2 F hr hb .nil (CX := CX0) (fun _ _ _ _ _ _ _ z => z.elim) hg G.gm (pa_cons he.pe pa_nil hs) hdb hs rfl)).wk fun D σ H h => ?_⟩
  obtain ⟨F0, A, s, hs, hR, D2, ht, k⟩ := h
  refine ⟨F0, A, s, hs, hR, _, ht, fun d A1 v H1 F1 p1 g1 r1 => ⟨by simp, fun a ha => ?_⟩⟩
  refine ⟨a, v, rfl, upd_same, fun dx hd hne => ?_⟩
  have hd1 : H1 dx = none := by rw [upd_ne hne] at hd; exact hd
  refine ⟨rfl, dx, [(f, v)], upd_same, by rw [upd_ne hne, upd_same], hd1, ?_⟩
  have e1 : upd (L2.del (upd (upd (upd H1 a (exo a C none)) dx (exd dx [(f, v)])) a (exo a C (some dx))) a) dx (.xd [(f, v)]) = upd H1 dx (.xd [(f, v)]) := by
    funext b
    by_cases q1 : b = dx
    · subst q1; rw [upd_same, upd_same]
    · rw [upd_ne q1, upd_ne q1]
      by_cases q2 : b = a
      · subst q2; rw [L2.del_same, ha]
      · rw [L2.del_ne q2, upd_ne q2, upd_ne q1, upd_ne q2]
  rw [e1]
  have g2 := g1.rs.goF (u := .xd [(f, v)]) hd1 trivial
  exact g1.rs.xr.2 C [(f, d)] (some dx) A1 _ _ p1 g2.g0 (.inr ⟨dx, _, rfl, upd_same, .cons (r1.mono g2.ext) .nil⟩)

/-! ### try: .. except C as e: suite -/
/-- the wish of the clause: C's own errors go to the suite -/
theorem len_read {X : Cx} {st : List Stmt} {t : TS} (h : PSs X st t) : PSs X st (fun D σ H => σ.length = X.N.length → t D σ H) := ⟨fun pins s σ H D I q => h.run pins s σ H D I (q I.len)⟩
/-- e.f of the caught error at a -/
def qXf (a : Addr) (f : Str) (fs : List (Str × D)) (te : TQ) : TQ := fun s A P => te s A fun x A1 => x = .fn a ∧ okQ (fs.lookup f) fun v => P v A1
abbrev Tz.sees (T : Tz) (K : PySem.W.Frag) (d : Option Addr) (fs : List (Str × D)) : Tz := { tb := T.tb, xe := T.xe, x2 := T.x2, iv := fun F => T.iv F ∧ XD K F d fs, mono := fun e h => ⟨T.mono e h.1, by
  rcases h.2 with z | ⟨dx, vs, h1, h2, h3⟩
  · exact .inl z
  · exact .inr ⟨dx, vs, h1, e _ _ h2, h3.mono e⟩⟩ }
theorem fs_lookup {K : PySem.W.Frag} {F : Hp} {f : Str} {d : D} : ∀ {vs : List (Str × V)} {fs : List (Str × D)}, FsRep K F vs fs → fs.lookup f = some d → ∃ v, vs.lookup f = some v ∧ Rep K F v d
  | _, _, .nil, h => by simp at h
  | _, _, @FsRep.cons _ _ n v c ps ds r rr, h => by
    by_cases hn : f = n
    · subst hn
      simp only [List.lookup_cons, beq_self_eq_true, Option.some.injEq] at h
      subst h
      exact ⟨v, by simp, r⟩
    · have e : (f == n) = false := by simpa using hn
      simp only [List.lookup_cons, e] at h
      obtain ⟨w, h1, h2⟩ := fs_lookup rr h
      exact ⟨w, by simp only [List.lookup_cons, e]; exact h1, h2⟩
theorem pq_xf {a : Addr} {oe : Obj} {cls : Value} {d : Option Addr} {pn : List (Addr × Obj)} {fs : List (Str × D)} (G : XfC X.K C) (hno : PySem.W.findIn X.K (.ref C) f = some none) (hcls : cls = .ref C) (hz : Zc cls d oe) (hf : ∃ vs, oe.data = .fields vs)
    (he : PQ (X.suite a ((a, oe) :: pn)) (T.sees X.K d fs) e te) (hne : fs ≠ []) (hb : attributeBase e f X.env (eval e X.env) = eval e X.env := by rfl) :
    PQ (X.suite a ((a, oe) :: pn)) (T.sees X.K d fs) (.Attribute e f pos) (qXf a f fs te) := ⟨(pe_xf (a := a) (d := d) G hno hz hf he.pe hb).wk fun σ H Q h => by
  obtain ⟨F0, A, s, hs, hR, P, ht, k⟩ := h
  refine ⟨F0, A, s, hs, hR, _, ht, fun x A1 v H1 F1 p1 g1 r1 => ?_⟩
  obtain ⟨rfl, p1⟩ := p1
  cases r1
  refine ⟨rfl, hcls, ?_⟩
  cases e1 : fs.lookup f with
  | none => rw [e1] at p1; exact p1.elim
  | some c =>
    rw [e1] at p1
    have xd : XD X.K F1 d fs := g1.rs.xr.1.2
    rcases xd with z | ⟨dx, vs, h1, h2, h3⟩
    · exact absurd z hne
    · obtain ⟨w, h4, h5⟩ := fs_lookup h3 e1
      exact ⟨dx, vs, w, h1, g1.rs.sub _ _ h2, h4, k _ _ _ _ _ p1 g1 h5⟩⟩
theorem takes_len {W W' : WX} (t : Takes X W) (h : ∀ c d σ H, σ.length = X.N.length → W' c d σ H → W c d σ H) : Takes X W' := fun u s' ⟨a, B, sI, pins, σ, H, cls, d, e, I, nb, up, sky, na, os, ag, w⟩ =>
  t u s' ⟨a, B, sI, pins, σ, H, cls, d, e, I, nb, up, sky, na, os, ag, h _ _ _ _ I.len w⟩
/-- try: body / except C as name: suite (it returns) -/
def qTryAs (C : Addr) (i n : Nat) (tb : XKQ → TSQ) (ts : Addr → List (Str × D) → TSQ) : TSQ := fun D s A => tb (fun C' fs A1 => C' = C ∧ fs ≠ [] ∧ ∀ a, ts a fs { nx := fun _ _ => False, rt := D.rt } ((List.replicate n none).set i (some (.fn a))) A1) { D with } s A
theorem rs_blank {K : PySem.W.Frag} {F : Hp} {a : Addr} {i : Nat} : ∀ {σ : St}, Rs K F (List.replicate σ.length none) σ
  | [] => .nil
  | _ :: σ => .no (rs_blank (σ := σ) (a := a) (i := i))
theorem psq_try_as {nm : Str} {i : Nat} {body suite : List Stmt} {b₀ : Stmt} {np pos' : Pos} {tb : XKQ → TSQ} {ts : Addr → List (Str × D) → TSQ} (hs : X.stack = X.env :: X.outer) (hf : X.env.frame = some X.env.locals) (hN : X.N.Nodup) (hi : X.N[i]? = some nm) (hln : X.env.kindOf nm = some .local) (hc : Names X x (.ref C))
    (hx : T.xe = fun _ _ _ => False) (tk : Takes X (fun _ _ _ _ => False)) (hex : PySem.W.exmOne X.K (.ref C) (.ref C) = some true)
    (hb : ∀ (pn : List (Addr × Obj)) (xe : Value → Shared → Prop) (T' : Tz), Takes (X.tr pn xe) (fun cls d _ H => T'.xe cls d H) → PassesOwn (model X.prog X.w) X.A X.env xe → PSsQ (X.tr pn xe) T' body (tb T'.x2))
    (hsu : ∀ (a : Addr) (oe : Obj) (cls : Value) (d : Option Addr) (pn : List (Addr × Obj)) (fs : List (Str × D)), fs ≠ [] → cls = .ref C → Zc cls d oe → (∃ vs, oe.data = .fields vs) → PSsQ (X.suite a ((a, oe) :: pn)) (({ tb := T.tb } : Tz).sees X.K d fs) (b₀ :: suite) (ts a fs)) :
    PSQ X T (.Try body [.ExceptHandler (some (.Name x np)) (some nm) (b₀ :: suite) pos'] [] [] pos) (qTryAs C i X.N.length tb ts) := by
  let tsV : Addr → Value → Option Addr → TS := fun a cls d D σ H => ∃ fs, cls = .ref C ∧ fs ≠ [] ∧ liftS X.K (({ tb := T.tb } : Tz).sees X.K d fs) (ts a fs) D σ H
  let tbV : WX → TS := fun W D σ H => ∃ T' : Tz, (∀ cls d σ H, σ.length = X.N.length → T'.xe cls d H → W cls d σ H) ∧ liftS X.K T' (tb T'.x2) D σ H
  refine ⟨(ps_try_as (tb := tbV) (ts := tsV) hs hf hN hi hln hc tk (fun W pn xe t hp => ⟨fun pins s σ H D I h => ?_⟩) (fun a oe cls d pn hz hd => ⟨fun pins s σ H D I h => ?_⟩)).wk fun D σ H h => ?_⟩
  · obtain ⟨T', h1, h2⟩ := h
    exact (hb pn xe T' (takes_len t h1) hp).ps.run pins s σ H D I h2
  · obtain ⟨fs, e, hne, h2⟩ := h
    exact (hsu a oe cls d pn fs hne e hz hd).ps.run pins s σ H D I h2
  · obtain ⟨F0, A, s, hs0, hR, D2, ht, k⟩ := h
    refine ⟨{ tb := T.tb, xe := fun cls d H' => ∀ σ', σ'.length = X.N.length → wAs X.K (.ref C) i tsV (fun _ _ _ _ => False) D cls d σ' H', x2 := _ }, fun cls d σ H hl h => h σ hl, F0, A, s, hs0, ⟨hR.r0, trivial, fun C' fs d A' H' F' px g xd σ' hl => ?_⟩, D2, ht, ⟨fun s' A' σ' H' F' p g r => k.nx _ _ _ _ _ p (hR.to g.g0) r, fun d A' v H' F' p g r => k.rt _ _ _ _ _ p (hR.to g.g0) r, fun s' A' σ' H' F' p g r => k.bk _ _ _ _ _ p (hR.to g.g0) r, fun s' A' σ' H' F' p g r => k.ct _ _ _ _ _ p (hR.to g.g0) r⟩⟩
    obtain ⟨rfl, hne, px⟩ := px
    refine ⟨true, hex, fun _ a ha => ⟨fs, rfl, hne, F', A', _, ?_, ⟨g.rs, ⟨trivial, xd⟩, fun _ _ _ _ _ _ z => z.elim⟩, _, px a, ⟨fun _ _ _ _ _ z => z.elim, fun d' A'' v H'' F'' p g2 r => k.rt _ _ _ _ _ p ((hR.to g).trans ((hR.via g).to g2.g0)) r, fun _ _ _ _ _ z => z.elim, fun _ _ _ _ _ z => z.elim⟩⟩, fun z => nomatch z⟩
    rw [← hl]
    exact (rs_blank (a := a) (i := i)).set (.fn a) i
end
end Qd


set_option Elab.async false
set_option linter.all false
set_option maxRecDepth 100000
set_option maxHeartbeats 4000000
/-! Second layer, part N: met(lambda: e): told, or the error's field. -/
namespace Qd
open PySem L2 LamX

/-- what becomes of the value told -/
def TTm (C : Addr) (f told code : Str) : (XK → Hp → VK → Prop) → Hp → VK → Prop := fun tl H Q =>
  tl (fun cls d H' => cls = .ref C ∧ ∃ dx vs v, d = some dx ∧ H' dx = some (.xd vs) ∧ vs.lookup f = some v ∧ ∀ p, H' p = none → Q (.ref p) (upd H' p (.tup [.str code, v]))) H
    (fun v H' => [V.str told, v].length ≤ sizeLine ∧ ∀ p, H' p = none → Q (.ref p) (upd H' p (.tup [.str told, v])))
section
variable {X : Cx}
theorem met_gives {x ec f told code q : Str} {sg : Scope} {g C : Addr} {cdg : Value} {j1 j2 k1 k2 : Nat} {p1 p2 p3 p4 p5 p6 p7 p8 p9 p10 p11 p12 p13 : Pos} (Sg : FnScope ["ask", "e"] ["ask"] sg) (hge : sg.names.lookup ec = some .globalImplicit) (hme : X.mg ec = some (.ref C)) (hde : (ec == ("__debug__" : Str)) = false)
    (hle : sg.names.lookup ("e" : Str) = some .local) (G : XfC X.K C) (hno : PySem.W.findIn X.K (.ref C) f = some none) (hex : PySem.W.exmOne X.K (.ref C) (.ref C) = some true)
    (hsw : ∀ env : Env, starEach [.Constant (.str told) j1 p3, .Call (.Name "ask" p1) [] [] p2] env = (false, eval (.Constant (.str told) j1 p3) env) :: starEach [.Call (.Name "ask" p1) [] [] p2] env := by intro env; rfl)
    (hsw2 : ∀ env : Env, starEach [.Call (.Name "ask" p1) [] [] p2] env = (false, eval (.Call (.Name "ask" p1) [] [] p2) env) :: starEach [] env := by intro env; rfl)
    (hsw3 : ∀ env : Env, starEach [.Constant (.str code) j2 p8, .Attribute (.Name "e" p6) f p7] env = (false, eval (.Constant (.str code) j2 p8) env) :: starEach [.Attribute (.Name "e" p6) f p7] env := by intro env; rfl)
    (hsw4 : ∀ env : Env, starEach [.Attribute (.Name "e" p6) f p7] env = (false, eval (.Attribute (.Name "e" p6) f p7) env) :: starEach [] env := by intro env; rfl)
    (hba : ∀ env : Env, attributeBase (.Name "e" p6) f env (eval (.Name "e" p6) env) = eval (.Name "e" p6) env := by intro env; rfl) :
    GivesTo X ["ask", "e"] x sg g cdg [.Try [.Return (some (.Tuple [.Constant (.str told) j1 p3, .Call (.Name "ask" p1) [] [] p2] k1 p4)) p5]
      [.ExceptHandler (some (.Name ec p9)) (some "e") [.Return (some (.Tuple [.Constant (.str code) j2 p8, .Attribute (.Name "e" p6) f p7] k2 p10)) p11] p12] [] [] p13] "ask" q (TTm C f told code) := by
  intro fa c' s H Q tl act hc h
  have hgl : Gl (cxOf C8.CX0 X.prog X.w X.K X.mg X.base ["ask", "e"] x sg g cdg X.A X.stack s H C8.E0).nox ec := hge
  have sz2 : ∀ n, n = 2 → n ≤ sizeLine := fun n e => by rw [e, sizeLine_eq]; decide
  refine ⟨_, pss_one (ps_try_as (X := (cxOf C8.CX0 X.prog X.w X.K X.mg X.base ["ask", "e"] x sg g cdg X.A X.stack s H C8.E0).nox) (c := .ref C) (i := 1) (Wout := fun _ _ _ _ => False)
      (tb := fun W D σ H => ∃ Ech : XK, (∀ cls d σ' H', σ'.length = 2 → Ech cls d H' → W cls d σ' H') ∧ σ[0]? = some (some (.ref fa)) ∧ H c' = some (CodeO c' q) ∧ tl Ech H fun v H' => [V.str told, v].length ≤ sizeLine ∧ ∀ p, H' p = none → D.rt (.ref p) (upd H' p (.tup [.str told, v])))
      (ts := fun a cls d D σ H => ∃ dx vs v, cls = .ref C ∧ σ.length = 2 ∧ σ[1]? = some (some (.ref a)) ∧ d = some dx ∧ H dx = some (.xd vs) ∧ vs.lookup f = some v ∧ ∀ p, H p = none → D.rt (.ref p) (upd H p (.tup [.str code, v])))
      rfl rfl Sg.nd rfl hle ⟨hgl, hde, .inl hme⟩ LamX.takes0 (fun W pn xe tk _ => ⟨fun pins s' σ H' D I h' => ?_⟩) (fun a oe cls d pn hz hd => ⟨fun pins s' σ H' D I h' => ?_⟩)), ?_⟩
  · obtain ⟨Ech, hW, h1, h2, h3⟩ := h'
    have hp := act (fun cls d σ H => σ.length = 2 → W cls d σ H) pn xe Ech p1 p2 (takes_len tk fun c d σ H hl w => w hl) (fun cls d σ' H' e hl => hW cls d σ' H' hl e)
    exact (pss_one (ps_ret (pos := p5) (pe_tup (x1 := k1) (pos := p4) (pa_cons pe_str (pa_cons hp pa_nil (hsw2 _)) (hsw _))))).run pins s' σ H' D I ⟨h1, h2, h3⟩
  · obtain ⟨dx, vs, v, rfl, hl, h1, h2, h3, h4, h5⟩ := h'
    have hv : Vis sg ("e" : Str) := .inl hle
    have hpe : PE (Cx.suite ((cxOf C8.CX0 X.prog X.w X.K X.mg X.base ["ask", "e"] x sg g cdg X.A X.stack s H C8.E0).nox) a ((a, oe) :: pn)) (.Name "e" p6) (tVar 1) := pv 1 rfl hv
    have hpx := pe_xf (X := (cxOf C8.CX0 X.prog X.w X.K X.mg X.base ["ask", "e"] x sg g cdg X.A X.stack s H C8.E0).nox) (pos := p7) G hno hz hd hpe (hba _)
    refine (pss_one (ps_ret (pos := p11) (pe_tup (x1 := k2) (pos := p10) (pa_cons pe_str (pa_cons hpx pa_nil (hsw4 _)) (hsw3 _))))).run pins s' σ H' D I ?_
    exact ⟨.ref a, h1, rfl, rfl, dx, vs, v, h2, h3, h4, sz2 _ rfl, h5⟩
  · refine ⟨fun cls d H' => cls = .ref C ∧ ∃ dx vs v, d = some dx ∧ H' dx = some (.xd vs) ∧ vs.lookup f = some v ∧ ∀ p, H' p = none → Q (.ref p) (upd H' p (.tup [.str code, v])), fun cls d σ' H' hl ⟨e, dx, vs, v, e1, e2, e3, e4⟩ => ⟨true, by rw [e]; exact hex, fun _ a ha => ⟨dx, vs, v, e, by simp [hl], ?_, e1, e2, e3, e4⟩, fun z => nomatch z⟩, rfl, hc, h⟩
    rw [List.getElem?_set_self (by omega)]
end
/-! ### the rule over data -/
section
variable {X : Cx} {T : Tz}
/-- met(lambda: e) -/
def qMet (C : Addr) (f told code : Str) (tB : XKQ → TQ) : TQ := fun s A P => tB (fun C' fs A1 => C' = C ∧ ∃ v, fs.lookup f = some v ∧ P (.tup [.str code, v]) A1) s A fun d A1 => P (.tup [.str told, d]) A1
theorem ext_go {K : PySem.W.Frag} {tb : List (Addr × Str)} {F H H1 : Hp} {A : MH} (R : RS0 K tb F A H) (e : ExtN H H1) (t : Tabs tb H1) : Go0 K tb F A H F A H1 := by
  have np : ∀ {u : HO}, Plain u → ∀ ps, u ≠ .tbl ps := fun {u} h ps z => by subst z; exact h
  refine ⟨Same.refl F, ⟨fun b o h => e b o (R.sub b o h) (np (R.pl b o h)), fun b o h => ?_, t, R.pl⟩, fun b u h n pl => ⟨e b u h (np pl), n, fun _ z => z⟩⟩
  obtain ⟨m1, m2⟩ := R.mem b o h
  obtain ⟨u, hu, wu, _⟩ := m2.there
  exact ⟨m1, m2.mono (Same.refl F) (by rw [hu]; exact e b u hu (np wu.plain))⟩
theorem lift_met {K : PySem.W.Frag} {C : Addr} {f told code : Str} {tB : XKQ → TQ} {σ : St} {H : Hp} {Q : VK} (h : lift K T (qMet C f told code tB) σ H Q) :
    tLam T.tb (TTm C f told code) (fun E σ H Q => ∃ x2, lift K { tb := T.tb, xe := E, x2 := x2 } (tB x2) σ H Q) σ H Q := by
  obtain ⟨F, A, s, hs, hR, P, ht, k⟩ := h
  refine ⟨hR.tab, fun H1 e t => ?_⟩
  have g := ext_go hR.r0 e t
  refine ⟨_, F, A, s, hs, ⟨g.rs, trivial, fun C' fs d A' H' F' px g2 xd => ?_⟩, _, ht, fun d A' v H' F' p g2 r => ⟨by rw [sizeLine_eq]; simp, fun q hq => ?_⟩⟩
  · obtain ⟨rfl, v, e1, px⟩ := px
    rcases xd with z | ⟨dx, vs, h1, h2, h3⟩
    · subst z; simp at e1
    · obtain ⟨w, h4, h5⟩ := fs_lookup h3 e1
      refine ⟨rfl, dx, vs, w, h1, g2.rs.sub _ _ h2, h4, fun p hp => ?_⟩
      have g3 : Go K T F A H F' A' H' := hR.to (g.trans g2)
      have g4 := g3.rs.goF (u := .tup [.str code, w]) hp trivial
      exact k _ _ _ _ _ px (g3.trans g4) (.tup (.of upd_same) (.cons (.str _) (.cons (h5.mono g4.ext) .nil)))
  · have g3 : Go K T F A H F' A' H' := hR.to (g.trans g2.g0)
    have g4 := g3.rs.goF (u := .tup [.str told, v]) hq trivial
    exact k _ _ _ _ _ p (g3.trans g4) (.tup (.of upd_same) (.cons (.str _) (.cons (r.mono g4.ext) .nil)))
theorem pq_met {C : Addr} {f told code x a : Str} {g c P : Addr} {k : Nat} {pg : Arguments} {bg : List Stmt} {sg : Scope} {dV kV doc pm cdv ct oc : Value} {an od : Option Addr} {osl : Array (Option Value)} {Ng : List Str} {tB : XKQ → TQ}
    {params : Arguments} {body : Expr} {scope : Scope} {p lpos pos : Pos} (hm : X.mg x = some (.ref g)) (hk : PySem.W.keepIn X.K (.ref g) = true)
    (lk : X.K.lookup g = some ⟨oc, od, .func (PySem.W.fnOf x x pg bg sg dV kV doc pm an cdv ct), osl⟩) (hcg : PySem.W.codeIn X.K cdv x = true) (hb : L2.Binds X.K (PySem.W.fnOf x x pg bg sg dV kV doc pm an cdv ct) [a] []) (Sg : FnScope Ng [a] sg) (hNg : Ng[0]? = some a) (hva : Vis sg a)
    (hG : GivesTo X Ng x sg g cdv bg a (X.env.qual ++ "<lambda>") (TTm C f told code))
    (TB : TabB X.base X.mg c P) (hcode : X.env.code = .ref c) (hmT : (P, X.env.qual ++ "<lambda>") ∈ T.tb) (hu : ∀ p ∈ T.tb, p.1 = P → p.2 = X.env.qual ++ "<lambda>") (hr : Room (k + 2) X.A) (L : LamS X.env.scope scope)
    (hbody : ∀ (A : Around) (outer : List Env) (s : Shared) (H : Hp) (E : XK) (f c' : Addr) (x2 : XKQ), Room k (A.deeper (lamEnv X scope s.heap.objs.size f c')) → PQ (lamCx X A outer s H E scope f c') { tb := T.tb, xe := E, x2 := x2 } body (tB x2)) (hdef : defaultsOf params X.env = ([], []) := by rfl)
    (hbind : ∀ (q : Str) (cl : List (Str × Addr)) (pm cv ctv : Value), bindArgs (PySem.W.kla_fn "<lambda>" q params body scope cl pm cv ctv) ⟨[], []⟩ = pure [] := by intros; rfl) (hg : Gl X x := by rfl)
    (hdb : (x == ("__debug__" : Str)) = false := by decide) (hd : (a == ("__debug__" : Str)) = false := by decide) (hcd : (a == ("__classdict__" : Str)) = false := by decide) :
    PQ X T (.Call (.Name x p) [.Lambda params body scope lpos] [] pos) (qMet C f told code tB) :=
  ⟨(pe_lamcall (t := fun E σ H Q => ∃ x2, lift X.K { tb := T.tb, xe := E, x2 := x2 } (tB x2) σ H Q) hg hm hk lk hcg hb Sg hNg hva hG TB hcode hmT hu hr L hdef hbind (fun A outer s H E f c' hr' => ⟨fun pins s σ H Q I h => by
    obtain ⟨x2, h⟩ := h
    exact (hbody A outer _ _ E f c' x2 hr').pe.run pins s σ H Q I h⟩) hdb hd hcd).wk fun _ _ _ h => lift_met h⟩
end
end Qd


set_option Elab.async false
set_option linter.all false
set_option maxRecDepth 100000
set_option maxHeartbeats 4000000
/-! Second layer, part O: dict comprehensions and displays whose keys are of any sort. -/
namespace Qd
open PySem L2 PyProof.Rows

/-! ### a dict that is filled: how it starts, how a pair is stored -/
structure Fill (P : Program) (w : World) (A : Around) where
  o0 : Addr → HO
  fresh : ∀ (H : Hp) (h : Heap), sysModules < h.objs.size → ObjOk P w H (h.push { cls := .type "dict", data := .dict #[] }) h.objs.size (o0 h.objs.size)
  put : V → V → Addr → Hp → (Hp → Prop) → Prop
  ok : ∀ (Y : Cx) (pins : List (Addr × Obj)) (σ : L2.St) (H : Hp) (s : Shared) (y z : V) (u r : Value) (D : Addr) (N : Hp → Prop) (E : Value → Shared → Prop), Y.prog = P → Y.w = w → Y.A = A → Inv Y pins σ H s → RelV y u → RelV z r → put y z D H N →
    wpAny (model P w) A (dictSet D u r) (fun _ s' => ∃ H', Inv Y pins σ H' s' ∧ N H') E s
section
variable {X : Cx}
/-- the reading of {k: v for target in iter if ..}, filled as Z says -/
def tFill (Z : Fill X.prog X.w X.A) (wi : TI) (g : TG) (tt : TT) (tk tv : TE) (vs : List Nat) : TE := fun σ H Q => wi σ H fun J H1 => ∀ D, H1 D = none → ∃ W : Nat → Nat → Hp → Prop, (∃ m, W 0 m (upd H1 D (Z.o0 D))) ∧ ∀ i m H, W i m H →
  (J.stop i H ∧ Q (.ref D) H) ∨ (J.go i H ∧ ∃ Nx : Hp → Prop, (∀ H', Nx H' → ∃ m', m' < m ∧ W (i + 1) m' H') ∧ ∀ x H', J.yld i H x H' → g x (wipe σ vs) H' fun σ2 H2 => wipe σ2 vs = wipe σ vs ∧ tt σ2 H2 fun b H3 =>
    if b = true then tk σ2 H3 fun y H4 => tv σ2 H4 fun z H5 => Z.put y z D H5 Nx else Nx H3)
variable {kx vx tg iter : Expr} {ifs : List Expr} {scope : Scope} {own : List (Str × Nat)} {pos : Pos} {wi : TI} {g : TG} {tt : TT} {tk tv : TE} {pins : List (Addr × Obj)} {σ : L2.St}
/-- what a turn needs of the block's parts -/
structure Parts (X : Cx) (scope : Scope) (tg : Expr) (ifs : List Expr) (kx vx : Expr) (g : TG) (tt : TT) (tk tv : TE) : Prop where
  t : ∀ (s : Shared) (H : Hp) (C : Addr) (cl : List (Str × Addr)) (fp : List Addr), PG (X.blk s H scope (compEnvC scope cl C X.env) fp) tg g
  i : ∀ (s : Shared) (H : Hp) (C : Addr) (cl : List (Str × Addr)) (fp : List Addr), PTs (X.blk s H scope (compEnvC scope cl C X.env) fp) ifs tt
  k : ∀ (s : Shared) (H : Hp) (C : Addr) (cl : List (Str × Addr)) (fp : List Addr), PE (X.blk s H scope (compEnvC scope cl C X.env) fp) kx tk
  v : ∀ (s : Shared) (H : Hp) (C : Addr) (cl : List (Str × Addr)) (fp : List Addr), PE (X.blk s H scope (compEnvC scope cl C X.env) fp) vx tv
theorem pe_fill (Z : Fill X.prog X.w X.A) (hc : X.calm = true) (hN : X.N.Nodup) (hi : PI X tg iter wi) (ok : BlkOk X.N X.env.scope scope own) (pp : Parts X scope tg ifs kx vx g tt tk tv) (hs : ∀ x, foldedSetIterable iter X.env x = pure x := by intro _; rfl) :
    PE X (.DictComp kx vx [⟨tg, iter, ifs, 0⟩] scope pos) (tFill Z wi g tt tk tv (own.map (·.2))) := by
  refine ⟨fun pins s σ H Q I h => ?_⟩
  rw [arm_eval_DictComp]
  have clo : ∀ y ∈ scope.names, y.2 = .free → ∃ c, X.env.cells.lookup y.1 = some c := fun y hy e => (ok.free y hy e).elim (fun q => I.ok.has _ (.inl q)) fun q => I.ok.has _ (.inr q)
  refine wpAny_comprehension_free (use := none) rfl hs (closure_ok clo) ok.kind (fun y hy e => by rw [ok.uniq y hy, e]) (thn (hi.run pins s σ H _ I h) fun xv sa q1 => thn q1 fun itv sb q2 => ?_)
  obtain ⟨it, fp, tn, J, Hb, rfl, Ib, TT, stb, fb, rd⟩ := q2
  refine wpAny_newObj_type (newEnv_comp ?_)
  -- the new dict
  obtain ⟨W, ⟨m0, w0⟩, turn⟩ := rd sb.heap.objs.size (Ib.hok.fresh (Nat.le_refl _))
  have lowfp : ∀ b ∈ fp, b < sb.heap.objs.size := fun b hb => let ⟨o, e, _⟩ := TT.obj _ _ stb b hb; Heap.lt_size e
  have Ic : Inv X pins σ (upd Hb sb.heap.objs.size (Z.o0 sb.heap.objs.size)) { sb with heap := sb.heap.push { cls := .type "dict", data := .dict #[] } } := Ib.laid (t' := sb.toks) (fun b o e => Heap.get?_push_of_some _ e) (Nat.le_refl _) (Z.fresh _ _ Ib.big)
  have fc : ∀ b ∈ fp, FpOk X pins (upd Hb sb.heap.objs.size (Z.o0 sb.heap.objs.size)) b ∧ b < (sb.heap.push { cls := .type "dict", data := .dict #[] }).objs.size := fun b hb =>
    ⟨⟨(upd_ne (Nat.ne_of_lt (lowfp b hb))).trans (fb b hb).1, (fb b hb).2⟩, by rw [Heap.size_push]; exact Nat.lt_succ_of_lt (lowfp b hb)⟩
  have stc := TT.keep _ _ (sb.heap.push { cls := .type "dict", data := .dict #[] }) stb fun b _ o e => Heap.get?_push_of_some _ e
  generalize sb.heap.objs.size = D at w0 turn Ic fc ⊢
  generalize upd Hb D (Z.o0 D) = Hc at w0 Ic fc ⊢
  generalize hsc : ({ sb with heap := sb.heap.push { cls := .type "dict", data := .dict #[] } } : Shared) = sc at Ic ⊢
  have hhc : sc.heap = sb.heap.push { cls := .type "dict", data := .dict #[] } := by rw [← hsc]
  rw [← hhc] at fc stc
  have Id := block_start Ic ok hN fc
  have gP := pp.t sc Hc sc.heap.objs.size (cellsFrom (sc.heap.objs.size + 1) scope.names (cloFrom X.env.cells scope.names [])) fp
  have iP := pp.i sc Hc sc.heap.objs.size (cellsFrom (sc.heap.objs.size + 1) scope.names (cloFrom X.env.cells scope.names [])) fp
  have kP := pp.k sc Hc sc.heap.objs.size (cellsFrom (sc.heap.objs.size + 1) scope.names (cloFrom X.env.cells scope.names [])) fp
  have vP := pp.v sc Hc sc.heap.objs.size (cellsFrom (sc.heap.objs.size + 1) scope.names (cloFrom X.env.cells scope.names [])) fp
  show codeAny _ _ (.compStart (.DictComp kx vx [⟨tg, iter, ifs, 0⟩] scope pos) 0 (.ref it) (.ref D) (compEnvC scope (cellsFrom (sc.heap.objs.size + 1) scope.names (cloFrom X.env.cells scope.names [])) sc.heap.objs.size X.env))
    (compPost (model X.prog X.w) X.A X.xe none (EP X pins σ Q) (.ref D) sc.heap.objs.size) { sc with heap := pushCells (sc.heap.push { cls := .type "dict", data := .dict #[] }) scope.names }
  have std : tn 0 (pushCells (sc.heap.push { cls := .type "dict", data := .dict #[] }) scope.names) := TT.keep _ _ _ stc fun b _ o e => pushCells_keeps _ _ _ _ (Heap.get?_push_of_some _ e)
  have eL : (compEnvC scope (cellsFrom (sc.heap.objs.size + 1) scope.names (cloFrom X.env.cells scope.names [])) sc.heap.objs.size X.env).locals = sc.heap.objs.size := rfl
  generalize compEnvC scope (cellsFrom (sc.heap.objs.size + 1) scope.names (cloFrom X.env.cells scope.names [])) sc.heap.objs.size X.env = ce at Id gP iP kP vP eL ⊢
  have std' : tn 0 ({ sc with heap := pushCells (sc.heap.push { cls := .type "dict", data := .dict #[] }) scope.names } : Shared).heap := std
  generalize ({ sc with heap := pushCells (sc.heap.push { cls := .type "dict", data := .dict #[] }) scope.names } : Shared) = sd at Id std' ⊢
  have n0 : ∀ b ∈ fp, Hc b = none := fun b hb => (fc b hb).1.1
  -- the iterator's own objects
  have own' : ∀ {σ' : L2.St} {H' : Hp} {s' : Shared}, Inv (X.blk sc Hc scope ce fp) [] σ' H' s' → (∀ b ∈ fp, H' b = none) → ∀ b ∈ fp, FpOk (X.blk sc Hc scope ce fp) [] H' b := fun {_ _ _} J hn b hb =>
    ⟨hn b hb, (J.ok.exf b hb).1, J.ok.exfs b hb, .inl hb, fun x c e => (J.ok.exf b hb).2 x c e, fun p hp => absurd (show p ∈ ([] : List (Addr × Obj)) ++ [] from hp) (by simp)⟩
  have loop : codeAny (model X.prog X.w) X.A (.compLoop (.DictComp kx vx [⟨tg, iter, ifs, 0⟩] scope pos) 0 (.ref it) (.ref D) ce) (compPost (model X.prog X.w) X.A X.xe none (EP X pins σ Q) (.ref D) sc.heap.objs.size) sd := by
    refine compLoop_anyD (fun n s' => ∃ i H', Inv (X.blk sc Hc scope ce fp) [] (wipe σ (own.map (·.2))) H' s' ∧ tn i s'.heap ∧ (∀ b ∈ fp, H' b = none) ∧ W i n H') (fun n se hse => ?_) m0 ⟨0, Hc, Id, std', n0, w0⟩
    obtain ⟨i, He, Ie, ste, ne, we⟩ := hse
    rcases turn i n He we with ⟨stp, fin⟩ | ⟨go, Nx, nxt, stepR⟩
    · refine thnF (TT.done (X.blk sc Hc scope ce fp) rfl rfl rfl hc i [] se _ He (fun _ _ => False) Ie (own' Ie ne) ste stp) fun r sf ⟨er, If⟩ => ?_
      subst er
      have Ig : Inv X pins σ He sf := Ic.call' (ch := fp) If.os If.base If.hok If.bare fun b hb => let z := (fc b hb).1; ⟨z.2.2.2.1, z.2.1, z.2.2.2.2.1, z.2.2.2.2.2⟩
      have nC : He sc.heap.objs.size = none := by
        have z : He ce.locals = none := If.free
        rwa [eL] at z
      obtain ⟨m, hn, _⟩ := If.loc
      have hn' : sf.heap.Ns ce.locals m := hn
      rw [eL] at hn'
      obtain ⟨f0, f1, f2, f3, f4, f5⟩ := Ic.fpOk (H' := He) (Nat.le_refl _) nC
      exact ⟨m, hn', fun h2 sb2 => ⟨.ref D, He, Ig.turned (t' := sf.toks) (fun b o hb e => (sb2.2 b hb).trans e) f0 f1 f3 f4 f5, rfl, fin⟩⟩
    · refine thnF (TT.item (X.blk sc Hc scope ce fp) rfl rfl rfl hc i [] se _ He (fun _ _ => False) Ie (own' Ie ne) ste go) fun r sf ⟨u, er, hu⟩ => ?_
      subst er
      refine thnF hu fun _ sg ⟨x, Hg, Ig, rx, yx, stg, ng⟩ => ?_
      have Ip := Ig.pinned (own' Ig ng) (TT.obj _ _ stg)
      refine thnF (gP.run _ sg _ Hg x u _ Ip rx (stepR x Hg yx)) fun _ sh ⟨σh, Hh, Ih, wh, qh⟩ => ?_
      refine thnF (iP.run _ sh σh Hh _ Ih qh) fun b si ⟨Hi, Ii, qi⟩ => ?_
      -- the end of the turn
      have done' : ∀ {s' : Shared} {H' : Hp}, Inv (X.blk sc Hc scope ce fp) ([] ++ pinsAt fp sg.heap) σh H' s' → Nx H' → ∃ m, m < n ∧ ∃ i H', Inv (X.blk sc Hc scope ce fp) [] (wipe σ (own.map (·.2))) H' s' ∧ tn i s'.heap ∧ (∀ b ∈ fp, H' b = none) ∧ W i m H' := fun {s' H'} J nx => by
        obtain ⟨m', lt, w'⟩ := nxt H' nx
        have at' : ∀ b ∈ fp, ∀ o, sg.heap.get? b = some o → s'.heap.get? b = some o ∧ H' b = none := fun b hb o e => let z := J.pin (b, o) (List.mem_append_right _ (List.mem_append_right _ (mem_pinsAt hb e))); ⟨z.1, z.2.1⟩
        refine ⟨m', lt, i + 1, H', (J.unpinned (pins := [])).weak (by rw [← wh, wipe_length]) (fun j v e => ?_), TT.keep _ _ _ stg fun b hb o e => (at' b hb o e).1, fun b hb => ?_, w'⟩
        · rw [← wh] at e; exact (wipe_some e).1
        · obtain ⟨o, e, _⟩ := TT.obj _ _ stg b hb
          exact (at' b hb o e).2
      cases b with
      | false => exact done' Ii (by simpa using qi)
      | true =>
        rw [if_pos rfl] at qi ⊢
        refine thnF (kP.run _ si σh Hi _ Ii qi) fun z sj ⟨y, Hj, Ij, ry, qj⟩ => thnF (vP.run _ sj σh Hj _ Ij qj) fun z2 sk ⟨v, Hk, Ik, rv, qk⟩ => ?_
        exact wpAny_mono (Z.ok (X.blk sc Hc scope ce fp) _ σh Hk sk y v z z2 D Nx _ rfl rfl rfl Ik ry rv qk) (fun _ sl ⟨Hl, Il, ql⟩ => done' Il ql) fun _ _ e => e
  exact codeAny_compStart_dict loop (TT.self X.A 0 _ _ _ std' loop)
end
end Qd


set_option Elab.async false
set_option linter.all false
set_option maxRecDepth 100000
set_option maxHeartbeats 4000000
/-! Second layer, part P: dict comprehensions, displays over data. -/
namespace Qd
open PySem L2

/-! ### keys that are bools or None -/
def leafOf : Option Bool → Leaf
  | none => .none
  | some b => .num (if b = true then 1 else 0)
theorem leafOf_inj {a b : Option Bool} (h : leafOf a = leafOf b) : a = b := by
  cases a with
  | none => cases b with
    | none => rfl
    | some b => cases h
  | some a => cases b with
    | none => cases h
    | some b => cases a <;> cases b <;> simp [leafOf] at h ⊢
def isOb : Option Bool → Value → Bool
  | none, .none => true
  | some b, .bool c => decide (b = c)
  | _, _ => false
theorem isOb_leaf {k : Option Bool} {v : Value} (h : isOb k v = true) : Leaf.isOf (leafOf k) v = true := by
  cases k with
  | none => cases v <;> simp [isOb] at h; rfl
  | some b => cases v <;> simp [isOb] at h; subst h; simp [leafOf, Leaf.isOf]
def obKind (prog : Program) (w : World) : PySem.KeyKind prog w (Option Bool) where
  is := isOb
  hash := fun k => (leafOf k).key.hash w
  inj := fun v a b ha hb => by
    cases a <;> cases b <;> cases v <;> simp [isOb] at ha hb <;> first | rfl | (subst ha; subst hb; rfl)
  byValue := fun _ _ h => Leaf.byValue (isOb_leaf h)
  pyHash := fun hv h => pyHash_leaf (isOb_leaf hv) h
  eqBool := fun {A E s a b u v Q} hu hv h => eqAt_leaf (isOb_leaf hu) (isOb_leaf hv) _ _ _ _ (by
    have e : decide (leafOf a = leafOf b) = decide (a = b) := by
      by_cases q : a = b
      · subst q; simp
      · rw [decide_eq_false q, decide_eq_false fun z => q (leafOf_inj z)]
    rw [e]; exact h)
  «strs» := fun k x t v h => by cases k <;> simp [isOb] at h
def obV : Option Bool → V
  | none => .non
  | some b => .bl b
theorem obV_is {k : Option Bool} {u : Value} (r : RelV (obV k) u) : isOb k u = true := by
  cases k with
  | none => cases (show u = Value.none from r); rfl
  | some b => cases (show u = Value.bool b from r); simp [isOb]
theorem is_obV {k : Option Bool} {u : Value} (h : isOb k u = true) : RelV (obV k) u := by
  cases k with
  | none => cases u <;> simp [isOb] at h; rfl
  | some b => cases u <;> simp [isOb] at h; subst h; rfl
/-- a dict with such keys, to be filled -/
def BD (P : Program) (w : World) (a : Addr) (kvs : List (Option Bool × V)) : HO := .ext fun h => (a == sysModules) = false ∧ kvs.length ≤ sizeLine ∧ ∃ vs, PySem.Paired (fun (p : Option Bool × V) (q : Option Bool × Value) => p.1 = q.1 ∧ RelV p.2 q.2) kvs vs ∧ h.DictOf (obKind P w) a vs
theorem bd_ok {P : Program} {w : World} {H : Hp} {h : Heap} {a : Addr} {kvs : List (Option Bool × V)} {vs : List (Option Bool × Value)} (lo : (a == sysModules) = false) (z : kvs.length ≤ sizeLine) (r : KV kvs vs) (d : h.DictOf (obKind P w) a vs) : ObjOk P w H h a (BD P w a kvs) :=
  ⟨⟨lo, z, vs, r, d⟩, let ⟨o, _, _, e, _⟩ := d; ⟨o, e⟩, fun h1 h2 ⟨l, z, vs, r, d⟩ k => ⟨l, z, vs, r, d.at k⟩⟩
theorem bd_wr {P : Program} {w : World} {a : Addr} {kvs : List (Option Bool × V)} : Wr (BD P w a kvs) := ⟨a, fun h ⟨_, _, vs, _, d⟩ => let ⟨o, es, ep, e, _, e2, _⟩ := d; ⟨o, es, ep, e, e2⟩⟩
theorem bd_raw {P : Program} {w : World} {H : Hp} {h : Heap} {a : Addr} {kvs : List (Option Bool × V)} (x : ObjOk P w H h a (BD P w a kvs)) : RawD h a (kvs.map fun p => (obV p.1, p.2)) := by
  obtain ⟨⟨lo, z, vs, kv, o, es, ep, h1, h2, h3, _, h5, _⟩, _⟩ := x
  have hp : ∀ {kvs : List (Option Bool × V)} {vs : List (Option Bool × Value)} {es : List DictEntry}, KV kvs vs → Pairs (obKind P w) es vs → PySem.Paired (fun (p : V × V) (e : DictEntry) => RelV p.1 e.key ∧ RelV p.2 e.val) (kvs.map fun p => (obV p.1, p.2)) es := by
    intro kvs vs es kv
    induction kv generalizing es with
    | nil => intro q; cases q; exact .nil
    | @cons p q ps qs hh t ih =>
      intro z
      cases z with
      | cons a1 a2 a3 =>
        refine .cons ⟨?_, ?_⟩ (ih a3)
        · show RelV (obV p.1) _
          rw [hh.1]; exact is_obV a1
        · show RelV p.2 _
          rw [a2]; exact hh.2
  have hh := hp kv h5
  have hl := hh.length
  refine ⟨lo, by rw [List.length_map]; exact z, o, es, ep, h1, h2, h3, ?_, hh⟩
  rw [hl]; simp
theorem gd_ok {P : Program} {w : World} {H : Hp} {h : Heap} {a : Addr} {ps : List (V × V)} (x : RawD h a ps) : ObjOk P w H h a (GD a ps) := by
  obtain ⟨lo, z, o, es, ep, h1, h2, h3, h4, h5⟩ := x
  exact ⟨⟨lo, o, es, ep, h1, h2, h3, by rw [h4]; exact z, h5⟩, ⟨o, h1⟩, fun h h' ⟨l, o, es, ep, e1, r⟩ k => ⟨l, o, es, ep, k _ e1, r⟩⟩
theorem sys_big {n : Nat} (h : sysModules < n) : (n == sysModules) = false := beq_eq_false_iff_ne.mpr (Ne.symm (Nat.ne_of_lt h))
/-! ### the three ways of filling -/
section
variable {P : Program} {w : World} {A : Around}
theorem obj_there {K : Type} [DecidableEq K] {knd : PySem.KeyKind P w K} {h : Heap} {a : Addr} {kvs : List (K × Value)} (d : h.DictOf knd a kvs) : ∃ q, h.get? a = some q := let ⟨q, _, _, e, _⟩ := d; ⟨q, e⟩
def fillB : Fill P w A where
  o0 := fun a => BD P w a []
  fresh := fun H h hb => bd_ok (sys_big hb) (Nat.zero_le _) .nil (Heap.DictOf.new h)
  put := fun y z D H N => ∃ kvs k, y = obV k ∧ H D = some (BD P w D kvs) ∧ kvs.length < sizeLine ∧ N (upd H D (BD P w D (putK kvs k z)))
  ok := fun Y pins σ H s y z u r D N E hP hw hA I ry rz h => by
    subst hP hw
    obtain ⟨kvs, k, rfl, hD, hz, q⟩ := h
    obtain ⟨⟨lo, z0, vs, rel, dd⟩, _⟩ := (show ObjOk Y.prog Y.w H s.heap D (BD Y.prog Y.w D kvs) from I.hok D _ hD)
    have hzv : vs.length ≤ sizeLine := by rw [← rel.length]; exact z0
    refine wpAny_dictSet_pairs (hsz := hzv) (obV_is ry) dd fun h' d2 hs => ⟨_, d_write I (by rw [hD]; trivial) hs (obj_there d2) (bd_ok lo (by have := length_putK kvs k z; omega) (KV.put rel k rz) d2), q⟩
def fillK : Fill P w A where
  o0 := fun _ => .dK []
  fresh := fun H h hb => dk_empty h hb
  put := fun y z D H N => ∃ kvs k, y = kV k ∧ H D = some (.dK kvs) ∧ kvs.length < sizeLine ∧ N (upd H D (.dK (putK kvs k z)))
  ok := fun Y pins σ H s y z u r D N E hP hw hA I ry rz h => by
    subst hP hw hA
    obtain ⟨kvs, k, rfl, hD, hz, q⟩ := h
    exact d_dictSet I hD hz ry rz fun s' I' => ⟨_, I', q⟩
def fillT (hu : A.units + 1 < cLine) : Fill P w A where
  o0 := fun _ => .dT []
  fresh := fun H h hb => dt_empty h hb
  put := fun y z D H N => ∃ kvs k b, y = .ref b ∧ H b = some (.tup (k.map kV)) ∧ H D = some (.dT kvs) ∧ kvs.length < sizeLine ∧ N (upd H D (.dT (putK kvs k z)))
  ok := fun Y pins σ H s y z u r D N E hP hw hA I ry rz h => by
    subst hP hw hA
    obtain ⟨kvs, k, b, rfl, eb, hD, hz, q⟩ := h
    obtain rfl : u = Value.ref b := ry
    obtain ⟨z0, lo, xs, rel, dd⟩ := dt_of I.hok hD
    have hzx : xs.length ≤ sizeLine := by rw [← PySem.Paired.length rel]; exact z0
    refine wpAny_dictSet_heap (hsz := hzx) (show Y.A.units < cLine from Nat.lt_of_succ_lt hu) (key_of I.hok eb) dd fun h' d2 hs => ⟨_, ?_, q⟩
    obtain ⟨o, es, ep, h1, h2, h3, h4, _, h5⟩ := d2
    refine d_write I (by rw [hD]; trivial) hs ⟨o, h1⟩ ⟨by have := length_putK kvs k z; omega, lo, _, (rel.put k eb rz).keeps fun c ys ec => ?_, o, es, ep, h1, h2, h3, h4, h5⟩
    rw [upd_ne (ne_of ec hD (fun z => nomatch z))]
    exact ec
end

/-! ### comprehensions over data -/
theorem RepK.monoK {K : PySem.W.Frag} {F F' : Hp} (e : Same F F') {ps : List (V × V)} {ds : List (D × D)} (r : RepK K F ps ds) : RepK K F' ps ds := RepK.mono e r
theorem RepA.monoA {κ : Type} {K : PySem.W.Frag} {F F' : Hp} (e : Same F F') {ps : List (κ × V)} {ds : List (κ × D)} (r : RepA K F ps ds) : RepA K F' ps ds := by
  induction r with
  | nil => exact .nil
  | cons h _ ih => exact .cons (h.mono e) ih
section
variable {κ : Type} [DecidableEq κ]
abbrev TKQ (κ : Type) := SQ → MH → (κ → MH → Prop) → Prop
/-- the turns: acc is made so far -/
def compF (t : Tgt) (tt : TTQ) (kk : TKQ κ) (tv : TQ) (s : SQ) : List D → List (κ × D) → MH → (List (κ × D) → MH → Prop) → Prop
  | [], acc, A, P => P acc A
  | x :: xs, acc, A, P => match tset t x s with
    | some s' => tt s' A fun b A1 => if b = true then kk s' A1 fun k A2 => tv s' A2 fun v A3 => acc.length < 100000 ∧ compF t tt kk tv s xs (putA acc k v) A3 P else compF t tt kk tv s xs acc A1 P
    | none => False
def qFill (wi : TAQ) (t : Tgt) (tt : TTQ) (kk : TKQ κ) (tv : TQ) (vs : List Nat) : SQ → MH → (List (κ × D) → MH → Prop) → Prop := fun s A P => wi s A fun ds A1 => compF t tt kk tv (wipeQ s vs) ds [] A1 P
theorem lift_fill {X : Cx} {T : Tz} {wi : TAQ} {t : Tgt} {tt : TTQ} {kk : TKQ κ} {tv : TQ} {tkV : TE} {vs : List Nat} (Z : Fill X.prog X.w X.A) (ob : Addr → List (κ × V) → HO) (hob0 : ∀ D, Z.o0 D = ob D []) (hwr : ∀ D kvs, Wr (ob D kvs)) (krel : V → κ → Hp → Prop) (kmono : ∀ {y k F F'}, Same F F' → krel y k F → krel y k F')
    (hput : ∀ {y z k D H F kvs N}, Same F H → krel y k F → H D = some (ob D kvs) → kvs.length < sizeLine → N (upd H D (ob D (putK kvs k z))) → Z.put y z D H N)
    (hkey : ∀ {σ H F A s} {P : κ → MH → Prop} {R : VK}, Rs X.K F s σ → RS X.K T F A H → kk s A P → (∀ k A' y H' F', P k A' → Go X.K T F A H F' A' H' → krel y k F' → R y H') → tkV σ H R)
    (hv : ∀ j ∈ tix t, j ∈ vs) {σ : L2.St} {H : Hp} {Q : VK} {F : Hp} {A : MH} {s : SQ} {P : List (κ × D) → MH → Prop} (hs : Rs X.K F s σ) (hR : RS X.K T F A H) (ht : qFill wi t tt kk tv vs s A P)
    (fin : ∀ acc A1 H1 F1 A' H' F' D ps, P acc A' → Go X.K T F A H F1 A1 H1 → Go X.K T F1 A1 H1 F' A' H' → H1 D = none → F' D = none → A' D = none → H' D = some (ob D ps) → RepA X.K F' ps acc → Q (.ref D) H') :
    tFill Z (liftI X.K T wi) (tgG X.K t) (liftT X.K T tt) tkV (lift X.K T tv) vs σ H Q := by
  refine ⟨F, A, s, hs, hR, _, ht, fun ds A1 H1 F1 J p g1 S => fun D hD => ?_⟩
  have nF1 : F1 D = none := (g1.rs.free hD).1
  have nA1 : A1 D = none := (g1.rs.free hD).2
  refine ⟨fun i m0 H' => ∃ F' A' acc ps, Go X.K T F1 A1 H1 F' A' H' ∧ F' D = none ∧ A' D = none ∧ H' D = some (ob D ps) ∧ RepA X.K F' ps acc ∧ m0 = ds.length - i ∧ i ≤ ds.length ∧ compF t tt kk tv (wipeQ s vs) (ds.drop i) acc A' P,
    ⟨_, F1, A1, [], [], g1.rs.go.beside hD, nF1, nA1, by rw [upd_same, hob0], .nil, rfl, Nat.zero_le _, p⟩, ?_⟩
  rintro i m0 H2 ⟨F2, A2, acc, ps, g2, n1, n2, hD2, rr, rfl, hi, q⟩
  by_cases hl : i < ds.length
  · refine .inr ⟨S.go i F2 A2 H2 hl g2.rs g2.ext, fun H' => ∃ F' A' acc ps, Go X.K T F1 A1 H1 F' A' H' ∧ F' D = none ∧ A' D = none ∧ H' D = some (ob D ps) ∧ RepA X.K F' ps acc ∧ compF t tt kk tv (wipeQ s vs) (ds.drop (i + 1)) acc A' P,
      fun H' ⟨F', A', acc, ps, h1, h2, h3, h4, h5, h6⟩ => ⟨ds.length - (i + 1), by omega, F', A', acc, ps, h1, h2, h3, h4, h5, rfl, hl, h6⟩, fun x H3 hy => ?_⟩
    obtain ⟨d, F3, hd, g3, r3⟩ := S.yld i F2 A2 H2 x H3 hl hy g2.rs g2.ext
    obtain ⟨a1, a2, a3⟩ := g3.kp D _ hD2 n2 (hwr D ps).plain
    have hd' : ds[i] = d := by rw [List.getElem?_eq_getElem hl] at hd; exact Option.some.inj hd
    rw [List.drop_eq_getElem_cons hl, hd'] at q
    have hsw : Rs X.K F3 (wipeQ s vs) (L2.wipe σ vs) := ((hs.mono g1.ext).mono (g2.trans g3).ext).wipe vs
    unfold compF at q
    cases hq : tset t d (wipeQ s vs) with
    | none => rw [hq] at q; exact q.elim
    | some s' =>
      rw [hq] at q
      refine tg_ok g3.rs t hsw r3 hq fun σ' h1 h2 => ⟨by rw [h2.wipe hv, wipe_wipe], ?_⟩
      refine ⟨F3, A2, s', h1, g3.rs, _, q, fun b A4 H4 F4 p4 g4 => ?_⟩
      obtain ⟨b1, b2, b3⟩ := g4.kp D _ a1 a2 (hwr D ps).plain
      cases b with
      | true =>
        rw [if_pos rfl]
        rw [if_pos rfl] at p4
        refine hkey (h1.mono g4.ext) g4.rs p4 fun k A5 y H5 F5 p5 g5 kr => ?_
        obtain ⟨c1, c2, c3⟩ := g5.kp D _ b1 b2 (hwr D ps).plain
        refine ⟨F5, A5, s', h1.mono (g4.trans g5).ext, g5.rs, _, p5, fun v A6 z H6 F6 p6 g6 r6 => ?_⟩
        obtain ⟨d1, d2, d3⟩ := g6.kp D _ c1 c2 (hwr D ps).plain
        have g7 := (((g2.trans g3).trans g4).trans g5).trans g6
        have e7 := (((g3.trans g4).trans g5).trans g6).ext
        refine hput g6.rs.sub (kmono g6.ext kr) d1 (by rw [rr.len]; exact Evl.sz_lt p6.1) ⟨F6, A6, _, _, g7.aside hD (d3 (hwr D ps) (c3 (hwr D ps) (b3 (hwr D ps) (a3 (hwr D ps) n1)))) d2 d1 (hwr D ps), d3 (hwr D ps) (c3 (hwr D ps) (b3 (hwr D ps) (a3 (hwr D ps) n1))), d2, upd_same, RepA.put r6 (rr.monoA e7), p6.2⟩
      | false =>
        rw [if_neg Bool.false_ne_true]
        rw [if_neg Bool.false_ne_true] at p4
        exact ⟨F4, A4, acc, ps, (g2.trans g3).trans g4, b3 (hwr D ps) (a3 (hwr D ps) n1), b2, b1, rr.monoA (g3.trans g4).ext, p4⟩
  · refine .inl ⟨S.stop i F2 A2 H2 (by omega) g2.rs g2.ext, ?_⟩
    rw [List.drop_eq_nil_of_le (by omega)] at q
    exact fin acc A1 H1 F1 A2 H2 F2 D ps q g1 g2 hD n1 n2 hD2 rr
end
section
variable {X : Cx} {T : Tz} {kx vx tg iter e : Expr} {ifs es : List Expr} {scope : Scope} {own : List (Str × Nat)} {pos : Pos} {wi : TAQ} {t : Tgt} {tt : TTQ} {tk tv te : TQ} {ta : TAQ}
/-- the block's parts -/
structure PartsQ (X : Cx) (T : Tz) (scope : Scope) (tg : Expr) (ifs : List Expr) (vx : Expr) (t : Tgt) (tt : TTQ) (tv : TQ) : Prop where
  g : ∀ (s : Shared) (H : Hp) (C : Addr) (cl : List (Str × Addr)) (fp : List Addr), PGQ (X.blk s H scope (compEnvC scope cl C X.env) fp) tg t
  i : ∀ (s : Shared) (H : Hp) (C : Addr) (cl : List (Str × Addr)) (fp : List Addr), PTsQ (X.blk s H scope (compEnvC scope cl C X.env) fp) T ifs tt
  v : ∀ (s : Shared) (H : Hp) (C : Addr) (cl : List (Str × Addr)) (fp : List Addr), PQ (X.blk s H scope (compEnvC scope cl C X.env) fp) T vx tv
def kkK (tk : TQ) : TKQ Key := fun s A P => tk s A fun d A1 => okQ (keyD d) fun k => P k A1
def obD : D → Option (Option Bool)
  | .non => some none
  | .bl b => some (some b)
  | _ => none
def kkB (tk : TQ) : TKQ (Option Bool) := fun s A P => tk s A fun d A1 => okQ (obD d) fun k => P k A1
def kkT (ta : TAQ) : TKQ (List Key) := fun s A P => ta s A fun ds A1 => ds.length ≤ 100000 ∧ okQ (keysT ds) fun k => P k A1
/-- {k: v for ..}: keys ints, texts; a dict that may change -/
def qDcK (wi : TAQ) (t : Tgt) (tt : TTQ) (tk tv : TQ) (vs : List Nat) : TQ := fun s A P => qFill wi t tt (kkK tk) tv vs s A fun acc A1 => newD true acc A1 P
theorem pq_dcK (hc : X.calm = true) (hN : X.N.Nodup) (hi : PIQ X T tg iter wi) (ok : BlkOk X.N X.env.scope scope own) (pp : PartsQ X T scope tg ifs vx t tt tv)
    (pk : ∀ (s : Shared) (H : Hp) (C : Addr) (cl : List (Str × Addr)) (fp : List Addr), PQ (X.blk s H scope (compEnvC scope cl C X.env) fp) T kx tk) (hv : ∀ j ∈ tix t, j ∈ own.map (·.2) := by decide) (hs : ∀ x, foldedSetIterable iter X.env x = pure x := by intro _; rfl) :
    PQ X T (.DictComp kx vx [⟨tg, iter, ifs, 0⟩] scope pos) (qDcK wi t tt tk tv (own.map (·.2))) :=
  ⟨(pe_fill (tk := lift X.K T tk) fillK hc hN hi.pi ok ⟨fun s H C cl fp => (pp.g s H C cl fp).pg, fun s H C cl fp => (pp.i s H C cl fp).pt, fun s H C cl fp => (pk s H C cl fp).pe, fun s H C cl fp => (pp.v s H C cl fp).pe⟩ hs).wk fun σ H Q h => by
    obtain ⟨F, A, s, hs, hR, P, ht, k⟩ := h
    refine lift_fill (T := T) (kk := kkK tk) fillK (fun _ kvs => .dK kvs) (fun _ => rfl) (fun _ _ => trivial) (fun y k F => y = kV k) (fun _ h => h) (fun _ kr hD hz n => ⟨_, _, kr, hD, hz, n⟩) (fun {σ H F A s P R} hs hR ht kk => ?_) hv hs hR ht fun acc A1 H1 F1 A' H' F' D ps p g1 g2 hD n1 n2 h1 r => ?_
    · refine ⟨F, A, s, hs, hR, _, ht, fun d A' v H' F' p g r => ?_⟩
      cases e : keyD d with
      | none => rw [e] at p; exact p.elim
      | some kx => rw [e] at p; exact kk kx A' v H' F' p g (keyD_rep r e)
    · unfold newD at p
      rw [if_pos rfl] at p
      exact k _ _ _ _ _ (p D n2) (g1.trans (g2.own hD n1 ⟨ps, h1, r.kv⟩)) (.mut D)⟩
/-- {(a, b): v for ..} -/
def qDcT (wi : TAQ) (t : Tgt) (tt : TTQ) (ta : TAQ) (tv : TQ) (vs : List Nat) : TQ := fun s A P => qFill wi t tt (kkT ta) tv vs s A fun acc A1 => ∀ a, A1 a = none → P (.mut a) (A1.set a (.dit acc))
theorem pq_dcT {kk : Nat} {kp : Pos} (hu : X.A.units + 1 < cLine) (hc : X.calm = true) (hN : X.N.Nodup) (hi : PIQ X T tg iter wi) (ok : BlkOk X.N X.env.scope scope own) (pp : PartsQ X T scope tg ifs vx t tt tv)
    (pk : ∀ (s : Shared) (H : Hp) (C : Addr) (cl : List (Str × Addr)) (fp : List Addr), PAQ (X.blk s H scope (compEnvC scope cl C X.env) fp) T es ta) (hv : ∀ j ∈ tix t, j ∈ own.map (·.2) := by decide) (hs : ∀ x, foldedSetIterable iter X.env x = pure x := by intro _; rfl) :
    PQ X T (.DictComp (.Tuple es kk kp) vx [⟨tg, iter, ifs, 0⟩] scope pos) (qDcT wi t tt ta tv (own.map (·.2))) :=
  ⟨(pe_fill (tk := tTup (liftA X.K T ta)) (fillT hu) hc hN hi.pi ok ⟨fun s H C cl fp => (pp.g s H C cl fp).pg, fun s H C cl fp => (pp.i s H C cl fp).pt, fun s H C cl fp => pe_tup (pk s H C cl fp).pa, fun s H C cl fp => (pp.v s H C cl fp).pe⟩ hs).wk fun σ H Q h => by
    obtain ⟨F, A, s, hs, hR, P, ht, k⟩ := h
    refine lift_fill (T := T) (kk := kkT ta) (fillT hu) (fun _ kvs => .dT kvs) (fun _ => rfl) (fun _ _ => trivial) (fun y k F => ∃ b, y = .ref b ∧ F b = some (.tup (k.map kV))) (fun e ⟨b, h1, h2⟩ => ⟨b, h1, e _ _ h2⟩) (fun sm ⟨b, h1, h2⟩ hD hz n => ⟨_, _, b, h1, sm _ _ h2, hD, hz, n⟩) (fun {σ H F A s P R} hs hR ht kk => ?_) hv hs hR ht fun acc A1 H1 F1 A' H' F' D ps p g1 g2 hD n1 n2 h1 r => ?_
    · refine ⟨F, A, s, hs, hR, _, ht, fun ds A' vs H' F' p g r => ⟨by rw [r.length]; exact Evl.sz_of p.1, fun q hq => ?_⟩⟩
      replace p := p.2
      cases e : keysT ds with
      | none => rw [e] at p; exact p.elim
      | some ks =>
        rw [e] at p
        have ev := keysT_rep r e
        subst ev
        have g3 := g.rs.goF (u := .tup (ks.map kV)) hq trivial
        exact kk ks A' _ _ _ p (g.trans g3) ⟨q, rfl, upd_same⟩
    · exact k _ _ _ _ _ (p D n2) (g1.trans (g2.own hD n1 ⟨ps, h1, r.kt⟩)) (.mut D)⟩
/-- {b: v for ..}, keys bools or None: read only from then on -/
def qDcB (wi : TAQ) (t : Tgt) (tt : TTQ) (tk tv : TQ) (vs : List Nat) : TQ := fun s A P => qFill wi t tt (kkB tk) tv vs s A fun acc A1 => P (.gdc (acc.map fun p => ((match p.1 with | none => D.non | some b => D.bl b), p.2))) A1
theorem obD_rep {K : PySem.W.Frag} {F : Hp} {v : V} {d : D} {k : Option Bool} (r : Rep K F v d) (h : obD d = some k) : v = obV k := by
  cases r with
  | non => simp only [obD, Option.some.injEq] at h; subst h; rfl
  | bl b => simp only [obD, Option.some.injEq] at h; subst h; rfl
  | _ => simp [obD] at h
theorem RepA.ob {K : PySem.W.Frag} {F : Hp} {ps : List (Option Bool × V)} {ds : List (Option Bool × D)} (r : RepA K F ps ds) : RepK K F (ps.map fun p => (obV p.1, p.2)) (ds.map fun p => ((match p.1 with | none => D.non | some b => D.bl b), p.2)) := by
  induction r with
  | nil => exact .nil
  | @cons n v d ps ds h _ ih => exact .cons (by cases n with | none => exact .non | some b => exact .bl b) h ih
theorem pq_dcB (hc : X.calm = true) (hN : X.N.Nodup) (hi : PIQ X T tg iter wi) (ok : BlkOk X.N X.env.scope scope own) (pp : PartsQ X T scope tg ifs vx t tt tv)
    (pk : ∀ (s : Shared) (H : Hp) (C : Addr) (cl : List (Str × Addr)) (fp : List Addr), PQ (X.blk s H scope (compEnvC scope cl C X.env) fp) T kx tk) (hv : ∀ j ∈ tix t, j ∈ own.map (·.2) := by decide) (hs : ∀ x, foldedSetIterable iter X.env x = pure x := by intro _; rfl) :
    PQ X T (.DictComp kx vx [⟨tg, iter, ifs, 0⟩] scope pos) (qDcB wi t tt tk tv (own.map (·.2))) :=
  ⟨(pe_fill (tk := lift X.K T tk) fillB hc hN hi.pi ok ⟨fun s H C cl fp => (pp.g s H C cl fp).pg, fun s H C cl fp => (pp.i s H C cl fp).pt, fun s H C cl fp => (pk s H C cl fp).pe, fun s H C cl fp => (pp.v s H C cl fp).pe⟩ hs).ghost fun pins σ H Q h => by
    obtain ⟨F, A, s, hs, hR, P, ht, k⟩ := h
    refine lift_fill (T := T) (kk := kkB tk) fillB (fun a kvs => BD X.prog X.w a kvs) (fun _ => rfl) (fun _ _ => bd_wr) (fun y k F => y = obV k) (fun _ h => h) (fun _ kr hD hz n => ⟨_, _, kr, hD, hz, n⟩) (fun {σ H F A s P R} hs hR ht kk => ?_) hv hs hR ht fun acc A1 H1 F1 A' H' F' D ps p g1 g2 hD n1 n2 h1 r => fun s' I' => ?_
    · refine ⟨F, A, s, hs, hR, _, ht, fun d A' v H' F' p g r => ?_⟩
      cases e : obD d with
      | none => rw [e] at p; exact p.elim
      | some kx => rw [e] at p; exact kk kx A' v H' F' p g (obD_rep r e)
    · have ok := I'.hok D _ h1
      have raw := bd_raw ok
      obtain ⟨lo, z, o, es, ep, e1, e2⟩ := raw
      have I2 : Inv X pins σ (upd H' D (GD D (ps.map fun p => (obV p.1, p.2)))) { s' with heap := s'.heap, toks := s'.toks } := d_write I' (by rw [h1]; trivial) (Heap.SameBut.refl _ _) ⟨o, e1⟩ (gd_ok ⟨lo, z, o, es, ep, e1, e2⟩)
      refine ⟨_, I2, ?_⟩
      have g3 : Go X.K T F1 A1 H1 F' A' (upd H' D (GD D (ps.map fun p => (obV p.1, p.2)))) := g2.aside hD n1 n2 h1 bd_wr
      obtain ⟨g4, e4⟩ := g3.froze (u := GD D (ps.map fun p => (obV p.1, p.2))) hD n1 n2 upd_same trivial
      exact k _ _ _ _ _ p (g1.trans g4) (.gdc upd_same (r.ob.monoK e4))⟩
end
end Qd


set_option Elab.async false
set_option linter.all false
set_option maxRecDepth 100000
set_option maxHeartbeats 4000000
/-! Second layer, part R: dict displays; enumerate of a list or tuple. -/
namespace Qd
open PySem L2

abbrev TPQ := SQ → MH → (List (D × D) → MH → Prop) → Prop
def qpNil : TPQ := fun _ A P => P [] A
def qpCons (tk tv : TQ) (tr : TPQ) : TPQ := fun s A P => tk s A fun k A1 => tv s A1 fun v A2 => tr s A2 fun ps A3 => P ((k, v) :: ps) A3
/-- related pairs -/
def liftPs (K : PySem.W.Frag) (T : Tz) (t : TPQ) : L2.St → Hp → (List (V × V) → Hp → Prop) → Prop := fun σ H Q => ∃ F A s, Rs K F s σ ∧ RS K T F A H ∧ ∃ P : List (D × D) → MH → Prop, t s A P ∧ ∀ ps A' vs H' F', P ps A' → Go K T F A H F' A' H' → RepK K F' vs ps → Q vs H'
structure PPQ (X : Cx) (T : Tz) (pos : Pos) (keys : List (Option Expr)) (values : List Expr) (t : TPQ) : Prop where
  trs : ∃ trs, PPs X pos keys values trs ∧ ∀ σ H Q, liftPs X.K T t σ H Q → tPairs trs σ H Q
section
variable {X : Cx} {T : Tz} {pos : Pos} {k v : Expr} {ks : List (Option Expr)} {vs : List Expr} {tk tv : TQ} {tr : TPQ}
theorem ppq_nil : PPQ X T pos [] [] qpNil := ⟨[], pps_nil, fun σ H Q h => by
  obtain ⟨F, A, s, hs, hR, P, ht, k⟩ := h
  exact k _ _ _ _ _ ht hR.go .nil⟩
theorem ppq_cons (hk : PQ X T k tk) (hv : PQ X T v tv) (hr : PPQ X T pos ks vs tr) : PPQ X T pos (some k :: ks) (v :: vs) (qpCons tk tv tr) := by
  obtain ⟨trs, h1, h2⟩ := hr.trs
  refine ⟨_, pps_cons hk.pe hv.pe h1, fun σ H Q h => ?_⟩
  obtain ⟨F, A, s, hs, hR, P, ht, kk⟩ := h
  refine ⟨F, A, s, hs, hR, _, ht, fun x A1 xv H1 F1 p1 g1 r1 => ?_⟩
  refine ⟨F1, A1, s, hs.mono g1.ext, g1.rs, _, p1, fun y A2 yv H2 F2 p2 g2 r2 => ?_⟩
  exact h2 _ _ _ ⟨F2, A2, s, (hs.mono g1.ext).mono g2.ext, g2.rs, _, p2, fun ps A3 ws H3 F3 p3 g3 r3 => kk _ _ _ _ _ p3 ((g1.trans g2).trans g3) (.cons (r1.mono (g2.trans g3).ext) (r2.mono g3.ext) r3)⟩
/-! keys ints and texts -/
def keyPs : List (D × D) → Option (List (Key × D))
  | [] => some []
  | (k, d) :: r => match keyD k, keyPs r with | some k, some ps => some ((k, d) :: ps) | _, _ => none
theorem keyPs_rep {K : PySem.W.Frag} {F : Hp} : ∀ {ds : List (D × D)} {vs : List (V × V)} {kvs : List (Key × D)}, RepK K F vs ds → keyPs ds = some kvs → ∃ ws, vs = ws.map (fun kv => (kV kv.1, kv.2)) ∧ RepA K F ws kvs ∧ ws.length = ds.length
  | [], _, kvs, .nil, h => by simp only [keyPs, Option.some.injEq] at h; subst h; exact ⟨[], rfl, .nil, rfl⟩
  | (c, d) :: ds, _, kvs, .cons a b r, h => by
    simp only [keyPs] at h
    split at h
    · rename_i k ps h1 h2
      simp only [Option.some.injEq] at h; subst h
      obtain ⟨ws, e, r2, l⟩ := keyPs_rep r h2
      refine ⟨(k, _) :: ws, ?_, .cons b r2, by simp [l]⟩
      rw [List.map_cons, ← e, keyD_rep a h1]
    · cases h
def qDisp (tr : TPQ) : TQ := fun s A P => tr s A fun ps A1 => ps.length ≤ 15 ∧ okQ (keyPs ps) fun kvs => newD true (mergeA [] kvs) A1 P
theorem pq_disp (h : PPQ X T pos ks vs tr) (hall : ks.all (·.isSome) = true := by rfl) (hl : ks.length = vs.length := by rfl) (h0 : ks ≠ [] := by simp) (h15 : ks.length ≤ 15 := by decide) : PQ X T (.Dict ks vs pos) (qDisp tr) := by
  obtain ⟨trs, h1, h2⟩ := h.trs
  refine ⟨(pe_disp h1 hall hl h0 h15).wk fun σ H Q hh p hp => ?_⟩
  obtain ⟨F, A, s, hs, hR, P, ht, k⟩ := hh
  have nF := (hR.free hp).1
  have nA := (hR.free hp).2
  have gB := hR.goB (u := .dK []) hp
  refine h2 _ _ _ ⟨F, A, s, hs, gB.rs, _, ht, fun ps A' ws H' F' q g r => ?_⟩
  obtain ⟨b1, b2, b3⟩ := g.kp p _ upd_same nA trivial
  refine ⟨b1, ?_⟩
  cases e : keyPs ps with
  | none => rw [e] at q; exact q.2.elim
  | some kvs =>
    rw [e] at q
    obtain ⟨us, e2, r2, l⟩ := keyPs_rep r e
    refine ⟨us, e2, by rw [l]; exact q.1, ?_⟩
    have q2 := q.2
    unfold newD at q2
    simp only [okQ_some, if_true] at q2
    have gg : Go X.K T F A H F' A' H' := gB.trans g
    have g2 := gg.aside (u := .dK (mergeK [] us)) hp (b3 trivial nF) b2 b1 trivial
    exact k _ _ _ _ _ (q2 p b2) (g2.own hp (b3 trivial nF) ⟨_, upd_same, (r2.merge .nil).kv⟩) (.mut p)

/-! one pair, the key a bool or None -/
def qDispB (tk tv : TQ) : TQ := fun s A P => tk s A fun k A1 => tv s A1 fun v A2 => (obD k).isSome = true ∧ P (.gdc [(k, v)]) A2
theorem pq_dispB (hk : PQ X T k tk) (hv : PQ X T v tv) : PQ X T (.Dict [some k] [v] pos) (qDispB tk tv) := ⟨⟨fun pins s σ H Q I h => by
  obtain ⟨F, A, sl, hs, hR, P, ht, kk⟩ := h
  have hp : H s.heap.objs.size = none := I.hok.fresh (Nat.le_refl _)
  have nF := (hR.free hp).1
  have nA := (hR.free hp).2
  have I1 : Inv X pins σ (upd H s.heap.objs.size (BD X.prog X.w s.heap.objs.size [])) { s with heap := s.heap.push { cls := .type "dict", data := .dict #[] } } := I.laid (t' := s.toks) (fun _ _ q => Heap.get?_push_of_some _ q) (Nat.le_refl _) (bd_ok (sys_big I.big) (Nat.zero_le _) .nil (Heap.DictOf.new s.heap))
  have gB := hR.goB (u := BD X.prog X.w s.heap.objs.size []) hp
  refine wpAny_Dict_walk (knd := obKind X.prog X.w) (keys := [some k]) (values := [v]) rfl rfl (by simp) (by simp) ?_
  refine pairTrees_cons_walk (thn (hk.pe.run pins _ σ _ _ I1 ⟨F, A, sl, hs, gB.rs, _, ht, fun x A1 xv H1 F1 p1 g1 r1 => (show (fun xv H1 => ∃ F1 A1 x, Rep X.K F1 xv x ∧ Go X.K T F A _ F1 A1 H1 ∧ tv sl A1 fun v A2 => (obD x).isSome = true ∧ P (.gdc [(x, v)]) A2) xv H1 from ⟨F1, A1, x, r1, g1, p1⟩)⟩) fun u s1 ⟨xv, H1, I2, ru, F1, A1, x, r1, g1, p1⟩ => ?_)
  refine thn (hv.pe.run pins _ σ _ _ I2 ⟨F1, A1, sl, hs.mono g1.ext, g1.rs, _, p1, fun y A2 yv H2 F2 p2 g2 r2 => (show (fun yv H2 => ∃ F2 A2 y, Rep X.K F2 yv y ∧ Go X.K T F1 A1 H1 F2 A2 H2 ∧ (obD x).isSome = true ∧ P (.gdc [(x, y)]) A2) yv H2 from ⟨F2, A2, y, r2, g2, p2⟩)⟩) fun u2 s2 ⟨yv, H2, I3, ru2, F2, A2, y, r2, g2, hb, p2⟩ => ?_
  refine pairTrees_nil_walk ?_
  obtain ⟨ok, eo⟩ := Option.isSome_iff_exists.mp hb
  have ex := obD_rep r1 eo
  subst ex
  obtain ⟨b1, b2, b3⟩ := g1.kp _ _ upd_same nA bd_wr.plain
  obtain ⟨c1, c2, c3⟩ := g2.kp _ _ b1 b2 bd_wr.plain
  obtain ⟨⟨lo, z, vs0, rel, dd⟩, _⟩ := (show ObjOk X.prog X.w H2 s2.heap _ (BD X.prog X.w s.heap.objs.size []) from I3.hok _ _ c1)
  cases rel
  refine ⟨[(ok, u2)], ⟨obV_is ru, rfl, trivial⟩, dd, fun h' d' sb => ?_⟩
  have raw : RawD h' s.heap.objs.size [(obV ok, yv)] := bd_raw (H := H) (kvs := [(ok, yv)]) (bd_ok lo (by rw [sizeLine_eq]; simp) (.cons ⟨rfl, ru2⟩ .nil) d')
  have I4 : Inv X pins σ (upd H2 s.heap.objs.size (GD s.heap.objs.size [(obV ok, yv)])) { s2 with heap := h', toks := s2.toks + [(u, u2)].length } := d_write I3 (by rw [c1]; trivial) sb (obj_there d') (gd_ok raw)
  refine ⟨.ref _, _, I4, rfl, ?_⟩
  have gg : Go X.K T F A H F2 A2 H2 := (gB.trans g1).trans g2
  have g3 := gg.aside (u := GD s.heap.objs.size [(obV ok, yv)]) hp (c3 bd_wr (b3 bd_wr nF)) c2 c1 bd_wr
  obtain ⟨g4, e4⟩ := g3.froze (u := GD s.heap.objs.size [(obV ok, yv)]) hp (c3 bd_wr (b3 bd_wr nF)) c2 upd_same trivial
  exact kk _ _ _ _ _ p2 g4 (.gdc upd_same (.cons (r1.mono (g2.ext.trans e4)) (r2.mono e4) .nil))⟩⟩
/-! one pair, the key a tuple of ints and texts -/
def qDispT (ta : TAQ) (tv : TQ) : TQ := fun s A P => ta s A fun ys A1 => ys.length ≤ 100000 ∧ (keysT ys).isSome = true ∧ tv s A1 fun v A2 => P (.gdc [(.tup ys, v)]) A2
theorem keyed_raw {P : Program} {w : World} {h : Heap} {a b : Addr} {k : List Key} {y : V} {r : Value} (lo : (a == sysModules) = false) (ry : RelV y r) (d : h.DictOfH (tupleKind (mixKind P w)) a [(k, b, r)]) : RawD h a [(.ref b, y)] := by
  obtain ⟨o, es, ep, h1, h2, h3, h4, _, _⟩ := d
  have e : es.toList.length = 1 := by rw [h4]; rfl
  refine ⟨lo, by rw [sizeLine_eq]; simp, o, es, ep, h1, h2, h3, by simpa using e, ?_⟩
  rw [h4]
  exact .cons ⟨rfl, ry⟩ .nil
theorem disp_one {A : Around} {E : Value → Shared → Prop} {P : Program} {w : World} {s : Shared} {env : Env} {ke ve : Expr} {Q : Value → Shared → Prop} (hu : A.units < cLine)
    (h : wpAny (model P w) A (eval ke env) (fun kv s₁ => wpAny (model P w) A (eval ve env) (fun vv s₂ => ∃ k b, kv = .ref b ∧ (tupleKind (mixKind P w)).is s₂.heap k b ∧ s₂.heap.DictOfH (tupleKind (mixKind P w)) s.heap.objs.size [] ∧
      ∀ h' tk, h'.DictOfH (tupleKind (mixKind P w)) s.heap.objs.size [(k, b, vv)] → Heap.SameBut s.heap.objs.size s₂.heap h' → Q (.ref s.heap.objs.size) { s₂ with heap := h', toks := tk }) E s₁) E { s with heap := s.heap.push { cls := .type "dict", data := .dict #[] } }) :
    wpAny (model P w) A (eval (.Dict [some ke] [ve] pos) env) Q E s := by
  rw [arm_eval_Dict, zip_pairTrees [some ke] [ve] env pos rfl rfl, dictDisplay_pairs (pairTrees [some ke] [ve] env pos) (by simp [pairTrees]) (by simp [pairTrees])]
  refine wpAny_bind (wpAny_standAt (wpAny_bind (wpAny_subDictH (knd := tupleKind (mixKind P w)) hu (by simp [pairTrees]) (pairTrees_cons_walk (wpAny_mono h (fun kv s1 h1 => wpAny_mono h1 (fun vv s2 h2 => pairTrees_nil_walk ?_) fun _ _ e => e) fun _ _ e => e)))))
  obtain ⟨k, b, rfl, h3, h4, h5⟩ := h2
  exact ⟨[(k, b, vv)], ⟨rfl, rfl, h3, trivial⟩, h4, fun h' tk a e => wpAny_pure (h5 h' tk a e)⟩
theorem pq_dispT {es : List Expr} {kk : Nat} {kp : Pos} {ta : TAQ} (hu : X.A.units + 1 < cLine) (hk : PAQ X T es ta) (hv : PQ X T v tv) : PQ X T (.Dict [some (.Tuple es kk kp)] [v] pos) (qDispT ta tv) := ⟨⟨fun pins s σ H Q I h => by
  obtain ⟨F, A, sl, hs, hR, P, ht, kk'⟩ := h
  have hp : H s.heap.objs.size = none := I.hok.fresh (Nat.le_refl _)
  have nF := (hR.free hp).1
  have nA := (hR.free hp).2
  have I1 : Inv X pins σ (upd H s.heap.objs.size (.dT [])) { s with heap := s.heap.push { cls := .type "dict", data := .dict #[] } } := I.laid (t' := s.toks) (fun _ _ q => Heap.get?_push_of_some _ q) (Nat.le_refl _) (dt_empty s.heap I.big)
  have gB := hR.goB (u := .dT []) hp
  refine disp_one (show X.A.units < cLine from Nat.lt_of_succ_lt hu) ?_
  have pT : PE X (.Tuple es kk kp) (tTup (liftA X.K T ta)) := pe_tup hk.pa
  refine thn (pT.run pins _ σ _ (fun xv H1 => ∃ (F1 : Hp) (A1 : MH) (ys : List D) (ks : List Key) (q : Addr), xv = .ref q ∧ F1 q = some (.tup (ks.map kV)) ∧ Reps X.K F1 (ks.map kV) ys ∧ Go X.K T F A (upd H s.heap.objs.size (.dT [])) F1 A1 H1 ∧ tv sl A1 fun v A2 => P (.gdc [(.tup ys, v)]) A2) I1 ⟨F, A, sl, hs, gB.rs, _, ht, fun ys A1 vs H1 F1 p1 g1 r1 => ⟨by rw [r1.length]; exact Evl.sz_of p1.1, fun q hq => ?_⟩⟩) fun u s1 ⟨xv, H1, I2, ru, F1, A1, ys, ks, q, ex, hq, rys, g1, p1⟩ => ?_
  · obtain ⟨ks, ek⟩ := Option.isSome_iff_exists.mp p1.2.1
    have ev := keysT_rep r1 ek
    subst ev
    have g3 := g1.rs.goF (u := .tup (ks.map kV)) hq trivial
    exact ⟨_, _, ys, ks, q, rfl, upd_same, r1.mono g3.ext, g1.trans g3, p1.2.2⟩
  subst ex
  obtain rfl : u = Value.ref q := ru
  refine thn (hv.pe.run pins _ σ _ (fun yv H2 => ∃ F2 A2 y, Rep X.K F2 yv y ∧ Go X.K T F1 A1 H1 F2 A2 H2 ∧ P (.gdc [(.tup ys, y)]) A2) I2 ⟨F1, A1, sl, hs.mono g1.ext, g1.rs, _, p1, fun y A2 yv H2 F2 p2 g2 r2 => ⟨F2, A2, y, r2, g2, p2⟩⟩) fun u2 s2 ⟨yv, H2, I3, ru2, F2, A2, y, r2, g2, p2⟩ => ?_
  obtain ⟨b1, b2, b3⟩ := g1.kp _ _ upd_same nA trivial
  obtain ⟨c1, c2, c3⟩ := g2.kp _ _ b1 b2 trivial
  obtain ⟨z, lo, xs0, rel, dd⟩ := dt_of I3.hok c1
  cases rel
  refine ⟨ks, q, rfl, key_of I3.hok (g2.rs.sub _ _ (g2.ext _ _ hq)), dd, fun h' tk d' sb => ?_⟩
  have raw := keyed_raw (y := yv) lo ru2 d'
  have hex : ∃ o, h'.get? s.heap.objs.size = some o := let ⟨o, _, _, e, _⟩ := d'; ⟨o, e⟩
  have I4 : Inv X pins σ (upd H2 s.heap.objs.size (GD s.heap.objs.size [(.ref q, yv)])) { s2 with heap := h', toks := tk } := d_write I3 (by rw [c1]; trivial) sb hex (gd_ok raw)
  refine ⟨.ref _, _, I4, rfl, ?_⟩
  have gg : Go X.K T F A H F2 A2 H2 := (gB.trans g1).trans g2
  have g3 := gg.aside (u := GD s.heap.objs.size [(.ref q, yv)]) hp (c3 trivial (b3 trivial nF)) c2 c1 trivial
  obtain ⟨g4, e4⟩ := g3.froze (u := GD s.heap.objs.size [(.ref q, yv)]) hp (c3 trivial (b3 trivial nF)) c2 upd_same trivial
  exact kk' _ _ _ _ _ p2 g4 (.gdc upd_same (.cons (.tup (.of ((g2.ext.trans e4) _ _ hq)) (rys.mono (g2.ext.trans e4))) (r2.mono e4) .nil))⟩⟩
end

/-! ### enumerate of a tuple -/
set_option maxHeartbeats 1000000 in
theorem meets_enum1 {v : Value} {o : Obj} {H : Heap → Prop} (B : Begins v o H) :
    Meets (Builtin.«enumerate.__new__» ⟨[.type "enumerate", v], []⟩) (fun _ R s => H s.heap ∧
      R (.ok (.ret (.ref (s.heap.objs.size + 1)))) { s with heap := (s.heap.push o).push { cls := .type "enumerate", data := .fields #[.none, .bool false, .ref s.heap.objs.size, rawInt 0, .none, .none] } }) :=
  .of_wp fun prog w A R s hs => by
    obtain ⟨hp, g, d, tk, os⟩ := s
    obtain ⟨h1, h2⟩ := hs
    have e1 : (hp.push o).objs.size = hp.objs.size + 1 := Heap.size_push ..
    have h2' : R (.ok (.ret (.ref (hp.push o).objs.size))) ⟨(hp.push o).push { cls := .type "enumerate", data := .fields #[.none, .bool false, .ref hp.objs.size, rawInt 0, .none, .none] }, g, d, tk, os⟩ := by rw [e1]; exact h2
    have isE := sub_enumerate
    have it1 : ∀ {A' : Around} {E : Value → Shared → Prop} {Q : Value → Shared → Prop}, Q (.ref hp.objs.size) ⟨hp.push o, g, d, tk, os⟩ → wpAny (model prog w) A' (pyIter v) Q E ⟨hp, g, d, tk, os⟩ := fun q => B.iter prog w _ _ ⟨hp, g, d, tk, os⟩ _ h1 q
    wp_walk using it1
    refine wpAny_stack_any fun st => wpAny_pure ?_
    split
    · rename_i c _ _ _ _ _
      cases (c == Value.type "enumerate")
      · wp_walk using it1
        exact ⟨_, rfl, h2'⟩
      · wp_walk using it1
        exact ⟨_, rfl, h2'⟩
    · wp_walk using it1
      exact ⟨_, rfl, h2'⟩
theorem call_enumT {prog : Program} {w : World} {A : Around} {E : Value → Shared → Prop} {s : Shared} {a : Addr} {items : Array Value} {Q : Value → Shared → Prop} (hT : s.heap.IsTuple a items)
    (h : ∀ h', IsEnum h' (s.heap.objs.size + 1) s.heap.objs.size 0 .none → h'.IsTupleIter s.heap.objs.size a 0 → (∀ b o, s.heap.get? b = some o → h'.get? b = some o) → Q (.ref (s.heap.objs.size + 1)) { s with heap := h' }) :
    wpAny (model prog w) A (call (.type "enumerate") [.ref a]) Q E s := by
  refine callType_new F.called_enumerate (by decide) (F.typeCall_enumerate_1 _) (F.newCall_enumerate_1 _) (fun obj => F.args_object_init_2 obj _) F.entry_enumerate_new (meets_enum1 (begins_tuple a items)) ⟨hT, ?_⟩
  have e1 : (s.heap.push { cls := .type "tuple_iterator", data := .fields #[.ref a, .int 0 0] }).objs.size = s.heap.objs.size + 1 := Heap.size_push ..
  have he : IsEnum ((s.heap.push { cls := .type "tuple_iterator", data := .fields #[.ref a, .int 0 0] }).push { cls := .type "enumerate", data := .fields #[.none, .bool false, .ref s.heap.objs.size, rawInt 0, .none, .none] }) (s.heap.objs.size + 1) s.heap.objs.size 0 .none := by
    rw [← e1]; exact Heap.get?_push_size _ rfl
  exact ⟨⟨_, he, rfl⟩, h _ he ⟨_, Heap.get?_push_of_some _ (Heap.get?_push_size _ rfl), rfl, rfl⟩ fun b o x => Heap.get?_push_of_some _ (Heap.get?_push_of_some _ x)⟩
/-- (0, x), (1, y), .. of the tuple at a, each pair new -/
def IteT (K : PySem.W.Frag) (a : Addr) : It :=
  ⟨fun i H => ∃ (xs : List V) (x : V), SqT K H a xs ∧ xs[i]? = some x, fun i H v H' => ∃ t x, v = .ref t ∧ H t = none ∧ H' = upd H t (.tup [.int (i : Nat), x]) ∧ ∀ xs, SqT K H a xs → xs[i]? = some x, fun i H => ∃ xs : List V, SqT K H a xs ∧ xs.length ≤ i⟩
theorem turn_enumT {P : Program} {w : World} {K : PySem.W.Frag} {elts : List Expr} {kk : Nat} {tpos : Pos} {a e it : Addr} (n1 : e ≠ it) (n2 : a ≠ it) (n3 : a ≠ e) :
    Turn P w K (.Tuple elts kk tpos) (IteT K a) [e, it] e (fun i h => (∃ old, IsEnum h e it ((i : Nat) : Int) old) ∧ h.IsTupleIter it a i) where
  mem := by simp
  obj := fun i h ⟨⟨old, he⟩, o, ho, _, hd⟩ b hb => by
    rcases List.mem_cons.mp hb with z | z
    · rw [z]; exact ⟨_, he, fun v q => nomatch q⟩
    · rw [List.mem_singleton.mp z]; exact ⟨o, ho, fun v q => by rw [hd] at q; cases q⟩
  keep := fun i h h' ⟨⟨old, he⟩, st⟩ k => ⟨⟨old, k e (by simp) _ he⟩, st.at fun o q => k it (by simp) o q⟩
  item := by
    intro X hP hw hK hc i pins s σ H E I hf st hg
    subst hP hw hK
    obtain ⟨⟨old, he⟩, hit⟩ := st
    obtain ⟨xs, x, hq, hx⟩ := hg
    obtain ⟨its, rv, p, hz⟩ := I.tuple hq
    obtain ⟨u, hu, ru⟩ := rv.get hx
    have hit0 := hit
    obtain ⟨oi, hoi, _⟩ := hit0
    have el : e < s.heap.objs.size := Heap.lt_size he
    have il : it < s.heap.objs.size := Heap.lt_size hoi
    have hix : i < its.toArray.size := by
      have := (List.getElem?_eq_some_iff.mp hu).1
      simpa using this
    refine wpAny_pyNext_enum_itemD (Draws.tuple (A := X.A.in1) (I.ok.hd hc) it a n2 its.toArray) he ⟨hit, p⟩ hix n1 (fun hm => by
      rcases List.mem_cons.mp hm with z | z
      · exact n1 z
      · exact n3 (List.mem_singleton.mp z).symm) fun y h' tk hy ho st' hT hsz hk => ?_
    have ey : y = u := by
      rw [List.getElem?_toArray, hu] at hy
      exact (Option.some.inj hy).symm
    subst ey
    refine ⟨_, rfl, wpAny_letOwnedTupleGo_enum (s := { s with heap := h', toks := tk + 1 }) ho fun h2 he2 sb => ?_⟩
    have hT2 : h2.get? s.heap.objs.size = some { cls := .type "tuple", data := .seq #[.int i tk, y] } := (sb.2 _ (Nat.ne_of_gt el)).trans hT
    have new : ObjOk X.prog X.w (upd H s.heap.objs.size (.tup [.int (i : Nat), x])) h2 s.heap.objs.size (.tup [.int (i : Nat), x]) := ⟨by show 2 ≤ sizeLine; decide, [.int i tk, y], .cons ⟨_, rfl⟩ (.cons ru .nil), ⟨_, hT2, rfl, _, rfl⟩⟩
    have I2 : Inv X pins σ (upd H s.heap.objs.size (.tup [.int (i : Nat), x])) { s with heap := h2, toks := tk + 1 } := I.turnedNew (ch := [e, it]) (fun b ob hb q => (sb.2 b fun z => hb (by simp [z])).trans (hk b ob (fun z => hb (by simp [z])) (fun z => hb (by simp [z])) q)) hf (Nat.le_refl _) new
    refine ⟨.ref s.heap.objs.size, _, I2, rfl, ⟨_, x, rfl, I.hok.fresh (Nat.le_refl _), rfl, fun ys hy => by rw [I.tuple_inj hy hq]; exact hx⟩, ⟨⟨y, ?_⟩, st'.1.at fun o q => (sb.2 it n1.symm).trans q⟩, fun b hb => ?_⟩
    · rw [show ((i + 1 : Nat) : Int) = (i : Int) + 1 by omega]; exact he2
    · rcases List.mem_cons.mp hb with z | z
      · rw [z, upd_ne (Nat.ne_of_lt el)]; exact (hf e (by simp)).1
      · rw [List.mem_singleton.mp z, upd_ne (Nat.ne_of_lt il)]; exact (hf it (by simp)).1
  done := by
    intro X hP hw hK hc i pins s σ H E I hf st hg
    subst hP hw hK
    obtain ⟨⟨old, he⟩, hit⟩ := st
    obtain ⟨xs, hq, hx⟩ := hg
    obtain ⟨its, rv, p, hz⟩ := I.tuple hq
    obtain ⟨f0, f1, f2, f3, f4, f5⟩ := hf it (by simp)
    have hl := rv.length
    have D : Draws X.prog X.w X.A.in1 it [it, a] i (fun i v => its.toArray[i]? = some v) (fun j h => j = i ∧ h.IsTupleIter it a i ∧ h.IsTuple a its.toArray) :=
      { live := fun _ _ st => let ⟨o, ho, _⟩ := st.2.1; ⟨o, ho⟩
        frame := fun _ _ _ st hk => ⟨st.1, st.2.1.at fun o e => hk it (by simp) o e, st.2.2.at fun o e => hk a (by simp) o e⟩
        item := fun j s Q E hj st hQ => absurd st.1 (Nat.ne_of_lt hj)
        done := fun s Q E st hE => wpAny_nextOf_tuple_end (I.ok.hd hc) st.2.1 st.2.2 (by simp; omega) hE }
    exact wpAny_pyNext_enum_endD D he ⟨rfl, hit, p⟩ fun h' eb => ⟨rfl, I.turned (t' := s.toks) (fun b o hb q => eb b o hb q) f0 f1 f3 f4 f5⟩
  self := fun A i s Q E ⟨⟨_, he⟩, _⟩ h => wpAny_pyIter_enum he h
section
variable {X : Cx} {T : Tz} {e : Expr} {te : TQ} {p pos tpos : Pos} {elts : List Expr} {kk : Nat}
def numL (xs : List D) : List D := (List.range xs.length).zipWith (fun i x => .tup [.int (i : Nat), x]) xs
theorem numL_get {xs : List D} {i : Nat} {x : D} (h : xs[i]? = some x) : (numL xs)[i]? = some (.tup [.int (i : Nat), x]) := by
  unfold numL
  have hl := (List.getElem?_eq_some_iff.mp h).1
  rw [List.getElem?_zipWith, h, List.getElem?_range hl]
theorem numL_length (xs : List D) : (numL xs).length = xs.length := by simp [numL]
def qEnum (te : TQ) : TAQ := fun s A P => te s A fun d A1 => match d with
  | .tup xs => P (numL xs) A1
  | d => okQ (froL d) fun xs => P (numL xs) A1
theorem Src.enum {K : PySem.W.Frag} {a : Addr} {vs : List V} {xs : List D} {F0 : Hp} (h : SqL K F0 a vs) (r : Reps K F0 vs xs) : Src K T (Ite K a) F0 (numL xs) :=
  ⟨fun i F A H hi R e => by
    rw [numL_length] at hi
    obtain ⟨v, h3, _⟩ := r.get (i := i) (List.getElem?_eq_getElem hi)
    exact ⟨vs, v, (e.trans R.sub).seq h, h3⟩,
  fun i F A H hi R e => ⟨vs, (e.trans R.sub).seq h, by rw [numL_length] at hi; rw [r.length]; exact hi⟩,
  fun i F A H x H' hl y R e => by
    obtain ⟨t, v, rfl, hn, rfl, h3⟩ := y
    obtain ⟨d, h5, h6⟩ := r.getV (h3 vs ((e.trans R.sub).seq h))
    have g := R.goF (u := .tup [.int (i : Nat), v]) hn trivial
    exact ⟨_, _, numL_get h5, g, .tup (.of upd_same) (.cons (.int _) (.cons ((h6.mono e).mono g.ext) .nil))⟩⟩
theorem Src.enumT {K : PySem.W.Frag} {a : Addr} {vs : List V} {xs : List D} {F0 : Hp} (h : SqT K F0 a vs) (r : Reps K F0 vs xs) : Src K T (IteT K a) F0 (numL xs) :=
  ⟨fun i F A H hi R e => by
    rw [numL_length] at hi
    obtain ⟨v, h3, _⟩ := r.get (i := i) (List.getElem?_eq_getElem hi)
    exact ⟨vs, v, sqT_mono (e.trans R.sub) h, h3⟩,
  fun i F A H hi R e => ⟨vs, sqT_mono (e.trans R.sub) h, by rw [numL_length] at hi; rw [r.length]; exact hi⟩,
  fun i F A H x H' hl y R e => by
    obtain ⟨t, v, rfl, hn, rfl, h3⟩ := y
    obtain ⟨d, h5, h6⟩ := r.getV (h3 vs (sqT_mono (e.trans R.sub) h))
    have g := R.goF (u := .tup [.int (i : Nat), v]) hn trivial
    exact ⟨_, _, numL_get h5, g, .tup (.of upd_same) (.cons (.int _) (.cons ((h6.mono e).mono g.ext) .nil))⟩⟩
theorem piq_enum (hm : X.mg "enumerate" = none) (he : PQ X T e te) (hg : Gl X "enumerate" := by rfl) (hs : starEach [e] X.env = (false, eval e X.env) :: starEach [] X.env := by rfl) :
    PIQ X T (.Tuple elts kk tpos) (.Call (.Name "enumerate" p) [e] [] pos) (qEnum te) := ⟨⟨fun pins s σ H R I h => by
  obtain ⟨F, A, sl, hsl, hR, P, ht, k⟩ := h
  refine PyProof.Rows.Call_ (ld_blt I hg hm PyProof.Rows.boot_enumerate (PyProof.Rows.callWith_type1 (one_arg he.pe I (R := fun v H1 => ∃ F1 A1 d, Rep X.K F1 v d ∧ Go X.K T F A H F1 A1 H1 ∧ (match d with | .tup xs => P (numL xs) A1 | d => okQ (froL d) fun xs => P (numL xs) A1)) ⟨F, A, sl, hsl, hR, _, ht, fun d A1 v H1 F1 p1 g1 r1 => ⟨F1, A1, d, r1, g1, p1⟩⟩ (fun u s1 v H1 I1 ru q => ?_) hs) hs))
  obtain ⟨F1, A1, d, rv, g1, p1⟩ := q
  split at p1
  · rename_i xs
    cases rv with
    | @tup a vs _ h1 h2 =>
      obtain rfl : u = Value.ref a := ru
      obtain ⟨its, rv, pl, hz⟩ := I1.tuple (sqT_mono g1.rs.sub h1)
      obtain ⟨oa, hoa, _⟩ := id pl
      have la : a < s1.heap.objs.size := Heap.lt_size hoa
      refine call_enumT (show s1.heap.IsTuple a its.toArray from pl) fun h' he' hit hk => wpAny_pyIter_enum he' ?_
      have I2 : Inv X pins σ H1 { s1 with heap := h' } := I1.kept (t' := s1.toks) hk
      refine ⟨s1.heap.objs.size + 1, [s1.heap.objs.size + 1, s1.heap.objs.size], _, _, H1, rfl, I2, turn_enumT (a := a) (e := s1.heap.objs.size + 1) (it := s1.heap.objs.size) (Nat.succ_ne_self _) (Nat.ne_of_lt la) (Nat.ne_of_lt (Nat.lt_succ_of_lt la)), ⟨⟨.none, he'⟩, hit⟩, fun b hb => ?_, k _ _ _ _ _ p1 g1 (Src.enumT h1 h2)⟩
      have hle : s1.heap.objs.size ≤ b := by
        rcases List.mem_cons.mp hb with z | z
        · rw [z]; exact Nat.le_succ _
        · rw [List.mem_singleton.mp z]; exact Nat.le_refl _
      exact I1.fpOk hle (I1.hok.fresh hle)
  · cases e1 : froL d with
    | none => rw [e1] at p1; exact p1.elim
    | some xs =>
      rw [e1] at p1
      obtain ⟨a, vs, rfl, h1, h2⟩ := froL_rep rv e1
      obtain rfl : u = Value.ref a := ru
      obtain ⟨its, rv, pl, hz⟩ := I1.list (g1.rs.sub.seq h1)
      refine call_enumerate_list pl.isList fun h' he' hit hsz hk => wpAny_pyIter_enum he' ?_
      have I2 : Inv X pins σ H1 { s1 with heap := h' } := I1.kept (t' := s1.toks) hk
      refine ⟨s1.heap.objs.size + 1, [s1.heap.objs.size + 1, s1.heap.objs.size], _, _, H1, rfl, I2, turn_enum a (s1.heap.objs.size + 1) s1.heap.objs.size, ⟨⟨.none, he'⟩, hit, Nat.succ_ne_self _⟩, fun b hb => ?_, k _ _ _ _ _ p1 g1 (Src.enum h1 h2)⟩
      have hle : s1.heap.objs.size ≤ b := by
        rcases List.mem_cons.mp hb with z | z
        · rw [z]; exact Nat.le_succ _
        · rw [List.mem_singleton.mp z]; exact Nat.le_refl _
      exact I1.fpOk hle (I1.hok.fresh hle)⟩⟩
end
end Qd


set_option Elab.async false
set_option linter.all false
set_option maxRecDepth 100000
set_option maxHeartbeats 4000000
/-! Second layer, part T: what never comes, dead objects dropped, lists frozen to their depth, a call that only looks. -/
namespace Qd
open PySem L2

/-! ### never -/
theorem pq_never {X : Cx} {T : Tz} {e : Expr} : PQ X T e (fun _ _ _ => False) := ⟨⟨fun _ _ _ _ _ _ q => by obtain ⟨_, _, _, _, _, _, h, _⟩ := q; exact h.elim⟩⟩
theorem pss_never {X : Cx} {T : Tz} {st : List Stmt} : PSsQ X T st qNever := ⟨⟨fun _ _ _ _ _ _ q => by obtain ⟨_, _, _, _, _, _, h, _⟩ := q; exact h.elim⟩⟩

/-! ### what is dead is dropped -/
def Shr (A A' : MH) : Prop := ∀ x o, A x = some o → A' x = some o
theorem Shr.refl (A : MH) : Shr A A := fun _ _ e => e
theorem Shr.trans {A B C : MH} (h : Shr A B) (g : Shr B C) : Shr A C := fun x o e => g x o (h x o e)
theorem Shr.new {A : MH} {a : Addr} {o : MO} (h : A a = none) : Shr A (A.set a o) := fun x u e => by
  rw [MH.set_ne (fun z => by subst z; rw [h] at e; cases e)]; exact e
section
variable {K : PySem.W.Frag} {T : Tz} {tb : List (Addr × Str)} {F F1 H H1 : Hp} {A A1 A2 : MH}
theorem RS0.shr (R : RS0 K tb F A H) (h : Shr A1 A) : RS0 K tb F A1 H := ⟨R.sub, fun a o e => R.mem a o (h a o e), R.tab, R.pl⟩
theorem Go0.shr (g : Go0 K tb F A H F1 A1 H1) (h : Shr A2 A1) : Go0 K tb F A H F1 A2 H1 :=
  ⟨g.ext, g.rs.shr h, fun b u e n p => by
    obtain ⟨h1, n1, f1⟩ := g.kp b u e n p
    refine ⟨h1, ?_, f1⟩
    rcases e2 : A2 b with _ | o
    · rfl
    · rw [h b o e2] at n1; cases n1⟩
end
section
variable {P : Program} {w : World} {K : PySem.W.Frag} {mg : Str → Option Value} {base : Heap}
/-- where a def ends, what is not asked for is dropped -/
theorem def_okS {x qual : Str} {st : Stmt} {f : Addr} {fd : FuncData} {N ps : List Str} {k : Nat} {r : RNQ} (F : Fun K x qual st f fd) (S : FnScope N ps (defScope st)) (len : ∀ ds A P, r ds A P → ds.length = ps.length)
    (hbody : ∀ (cdv : Value) (A : Around) (outer : List Env) (s : Shared) (H : Hp) (E : XK) (tb : List (Addr × Str)), Room k (A.deeper (PyProof.Rows.envOfC qual (defScope st) s.heap.objs.size f cdv)) →
      ∃ t, PSsQ (cxOf CX0 P w K mg base N qual (defScope st) f cdv A outer s H E).nox { tb := tb } (defBody st) t ∧ ∀ ds A P, r ds A P → t { nx := fun _ A' => ∃ A2, Shr A2 A' ∧ P .non A2, rt := fun d A' => ∃ A2, Shr A2 A' ∧ P d A2 } (startQ N ds) A) :
    FnOk P w K mg base CX0 (k + 1) f fd ps (liftSp K r) := by
  refine F.ok S (liftSp_len len) fun cdv A outer s H vs Q E hr h => ?_
  obtain ⟨tb, F0, A0, ds, h1, h2, PP, h3, h4⟩ := h
  obtain ⟨t, ht, hq⟩ := hbody cdv A outer s H E tb hr
  have hR : RS K { tb := tb } F0 A0 H := ⟨h2, trivial, fun C fs d A' H' F' z => z.elim⟩
  exact ⟨_, ht.ps, F0, A0, startQ N ds, start_rep h1, hR, _, hq ds A0 PP h3, ⟨fun s' A' σ' H' F' ⟨A2, sh, p⟩ g _ => h4 _ _ _ _ _ p (g.g0.shr sh) .non, fun d A' v H' F' ⟨A2, sh, p⟩ g rr => h4 _ _ _ _ _ p (g.g0.shr sh) rr, fun _ _ _ _ _ z => z.elim, fun _ _ _ _ _ z => z.elim⟩⟩
theorem def_okXS {x qual : Str} {st : Stmt} {f : Addr} {fd : FuncData} {N ps : List Str} {k : Nat} {r : RXQ} (F : Fun K x qual st f fd) (S : FnScope N ps (defScope st)) (len : ∀ ds A P x2, r ds A P x2 → ds.length = ps.length)
    (hbody : ∀ (cdv : Value) (A : Around) (outer : List Env) (s : Shared) (H : Hp) (E : XK) (tb : List (Addr × Str)) (x2 : XKQ), Room k (A.deeper (PyProof.Rows.envOfC qual (defScope st) s.heap.objs.size f cdv)) →
      ∃ t, PSsQ (cxOf (L2.CX P w) P w K mg base N qual (defScope st) f cdv A outer s H E) { tb := tb, xe := E, x2 := fun C fs A' => ∃ A2, Shr A2 A' ∧ x2 C fs A2 } (defBody st) t ∧ ∀ ds A P, r ds A P x2 → t { nx := fun _ A' => ∃ A2, Shr A2 A' ∧ P .non A2, rt := fun d A' => ∃ A2, Shr A2 A' ∧ P d A2 } (startQ N ds) A) :
    FnOk P w K mg base (L2.CX P w) (k + 1) f fd ps (liftSpX K r) := by
  refine F.okX S (liftSpX_len len) fun cdv A outer s H vs Q E hr h => ?_
  obtain ⟨tb, F0, A0, ds, h1, h2, PP, x2, h3, h4, h5⟩ := h
  obtain ⟨t, ht, hq⟩ := hbody cdv A outer s H E tb x2 hr
  have hR : RS K { tb := tb, xe := E, x2 := fun C fs A' => ∃ A2, Shr A2 A' ∧ x2 C fs A2 } F0 A0 H := ⟨h2, trivial, fun C fs d A' H' F' ⟨A2, sh, p⟩ g xd => h5 C fs d A2 H' F' p (g.shr sh) xd⟩
  exact ⟨_, ht.ps, F0, A0, startQ N ds, start_rep h1, hR, _, hq ds A0 PP h3, ⟨fun s' A' σ' H' F' ⟨A2, sh, p⟩ g _ => h4 _ _ _ _ _ p (g.g0.shr sh) .non, fun d A' v H' F' ⟨A2, sh, p⟩ g rr => h4 _ _ _ _ _ p (g.g0.shr sh) rr, fun _ _ _ _ _ z => z.elim, fun _ _ _ _ _ z => z.elim⟩⟩
end
/-! ### a list frozen to its depth -/
section
def fzL (f : D → MH → Option (D × MH)) : List D → MH → Option (List D × MH)
  | [], A => some ([], A)
  | d :: r, A => match f d A with
    | some (d', A1) => match fzL f r A1 with
      | some (r', A2) => some (d' :: r', A2)
      | none => none
    | none => none
def fzN : Nat → D → MH → Option (D × MH)
  | n + 1, .mut a, A => match A a with
    | some (.lst ds) => match fzL (fzN n) ds (A.del a) with
      | some (ds', A') => some (.lst ds', A')
      | none => none
    | _ => none
  | _, .mut _, _ => none
  | _, d, A => some (d, A)
variable {K : PySem.W.Frag} {T : Tz}
theorem fzL_ok {f : D → MH → Option (D × MH)} (hf : ∀ {d A d' A' v F H}, f d A = some (d', A') → RS K T F A H → Rep K F v d → ∃ F', Go K T F A H F' A' H ∧ Rep K F' v d') : ∀ {ds A ds' A' vs F H}, fzL f ds A = some (ds', A') → RS K T F A H → Reps K F vs ds → ∃ F', Go K T F A H F' A' H ∧ Reps K F' vs ds'
  | [], A, ds', A', vs, F, H, e, R, r => by
    cases e; cases r
    exact ⟨F, R.go, .nil⟩
  | d :: ds, A, ds', A', vs, F, H, e, R, r => by
    cases r with
    | cons h t =>
      unfold fzL at e
      split at e
      · rename_i d1 A1 e1
        obtain ⟨F1, g1, r1⟩ := hf e1 R h
        split at e
        · rename_i r2 A2 e2
          cases e
          obtain ⟨F2, g2, r3⟩ := fzL_ok hf e2 g1.rs (t.mono g1.ext)
          exact ⟨F2, g1.trans g2, .cons (r1.mono g2.ext) r3⟩
        · cases e
      · cases e
theorem fzN_ok : ∀ (n : Nat) {d A d' A' v F H}, fzN n d A = some (d', A') → RS K T F A H → Rep K F v d → ∃ F', Go K T F A H F' A' H ∧ Rep K F' v d'
  | 0, d, A, d', A', v, F, H, e, R, r => by
    cases d <;> first | (cases e; exact ⟨F, R.go, r⟩) | cases e
  | n + 1, .mut a, A, d', A', v, F, H, e, R, r => by
    obtain rfl := r.mut_inv
    unfold fzN at e
    split at e
    · rename_i ds ea
      split at e
      · rename_i ds1 A1 e1
        cases e
        obtain ⟨hF, ⟨vs, hv, rv⟩⟩ := R.mem a _ ea
        have g0 := R.goFz ea hv
        obtain ⟨F2, g2, r2⟩ := fzL_ok (fun e R r => fzN_ok n e R r) e1 g0.rs (rv.mono g0.ext)
        exact ⟨F2, g0.trans g2, .lst (g2.ext _ _ upd_same) r2⟩
      · cases e
    · cases e
  | n + 1, .non, A, d', A', v, F, H, e, R, r => by cases e; exact ⟨F, R.go, r⟩
  | n + 1, .bl _, A, d', A', v, F, H, e, R, r => by cases e; exact ⟨F, R.go, r⟩
  | n + 1, .int _, A, d', A', v, F, H, e, R, r => by cases e; exact ⟨F, R.go, r⟩
  | n + 1, .str _, A, d', A', v, F, H, e, R, r => by cases e; exact ⟨F, R.go, r⟩
  | n + 1, .ty _, A, d', A', v, F, H, e, R, r => by cases e; exact ⟨F, R.go, r⟩
  | n + 1, .tup _, A, d', A', v, F, H, e, R, r => by cases e; exact ⟨F, R.go, r⟩
  | n + 1, .lst _, A, d', A', v, F, H, e, R, r => by cases e; exact ⟨F, R.go, r⟩
  | n + 1, .dic _, A, d', A', v, F, H, e, R, r => by cases e; exact ⟨F, R.go, r⟩
  | n + 1, .gdc _, A, d', A', v, F, H, e, R, r => by cases e; exact ⟨F, R.go, r⟩
  | n + 1, .fn _, A, d', A', v, F, H, e, R, r => by cases e; exact ⟨F, R.go, r⟩
  | n + 1, .lam _, A, d', A', v, F, H, e, R, r => by cases e; exact ⟨F, R.go, r⟩
  | n + 1, .frl _, A, d', A', v, F, H, e, R, r => by cases e; exact ⟨F, R.go, r⟩
def qFzN (n : Nat) (t : TQ) : TQ := fun s A P => t s A fun d A1 => okQ (fzN n d A1) fun p => P p.1 p.2
theorem pq_fzN {X : Cx} {e : Expr} {t : TQ} (n : Nat) (h : PQ X T e t) : PQ X T e (qFzN n t) := ⟨h.pe.wk fun σ H Q h => by
  obtain ⟨F, A, s, hs, hR, P, ht, k⟩ := h
  refine ⟨F, A, s, hs, hR, _, ht, fun d A1 v H1 F1 p1 g1 r1 => ?_⟩
  cases e : fzN n d A1 with
  | none => rw [e] at p1; exact p1.elim
  | some p =>
    rw [e] at p1
    obtain ⟨d', A'⟩ := p
    obtain ⟨F2, g2, r2⟩ := fzN_ok n e g1.rs r1
    exact k _ _ _ _ _ p1 (g1.trans g2) r2⟩
end

/-! ### a call that only looks: what may change is lent out as if it could not -/
def viewL (f : D → Option D) : List D → Option (List D)
  | [] => some []
  | d :: r => match f d, viewL f r with | some d', some r' => some (d' :: r') | _, _ => none
def viewN : Nat → MH → D → Option D
  | n + 1, A, .mut a => match A a with
    | some (.lst ds) => (viewL (viewN n A) ds).map .lst
    | _ => none
  | n + 1, A, .lst ds => (viewL (viewN n A) ds).map .lst
  | n + 1, A, .tup ds => (viewL (viewN n A) ds).map .tup
  | _, _, d => some d
section
variable {K : PySem.W.Frag} {F H : Hp} {A : MH}
def lent (F : Hp) (A : MH) (H : Hp) : Hp := fun a => match A a with
  | some (.lst _) => H a
  | _ => F a
theorem lent_ok {tb : List (Addr × Str)} (R : RS0 K tb F A H) : RS0 K tb (lent F A H) (fun _ => none) H ∧ Same F (lent F A H) := by
  refine ⟨⟨fun b o e => ?_, fun b o (e : none = some o) => (by cases e), R.tab, fun b u e => ?_⟩, fun b o e => ?_⟩
  · unfold lent at e
    split at e
    · exact e
    · exact R.sub _ _ e
  · unfold lent at e
    split at e
    · rename_i ds ea
      obtain ⟨_, vs, hv, _⟩ := R.mem b _ ea
      rw [hv] at e; cases e; trivial
    · exact R.pl _ _ e
  · unfold lent
    split
    · rename_i ds ea
      obtain ⟨hF, _⟩ := R.mem b _ ea
      rw [hF] at e; cases e
    · exact e
theorem viewL_ok {F1 : Hp} {f : D → Option D} (hf : ∀ {v d d'}, f d = some d' → Rep K F v d → Rep K F1 v d') : ∀ {vs ds ds'}, viewL f ds = some ds' → Reps K F vs ds → Reps K F1 vs ds'
  | _, [], _, e, .nil => by cases e; exact .nil
  | _, d :: ds, _, e, .cons h t => by
    unfold viewL at e
    split at e
    · rename_i d1 r1 e1 e2
      cases e
      exact .cons (hf e1 h) (viewL_ok hf e2 t)
    · cases e
theorem viewN_ok {tb : List (Addr × Str)} (R : RS0 K tb F A H) : ∀ (n : Nat) {v d d'}, viewN n A d = some d' → Rep K F v d → Rep K (lent F A H) v d'
  | 0, v, d, d', e, r => by
    cases e
    exact r.mono (lent_ok R).2
  | n + 1, v, .mut a, d', e, r => by
    obtain rfl := r.mut_inv
    unfold viewN at e
    split at e
    · rename_i ds ea
      cases e1 : viewL (viewN n A) ds with
      | none => rw [e1] at e; cases e
      | some ds1 =>
        rw [e1] at e; cases e
        obtain ⟨hF, vs, hv, rv⟩ := R.mem a _ ea
        refine .lst ?_ (viewL_ok (fun e r => viewN_ok R n e r) e1 rv)
        unfold lent
        rw [ea]
        exact hv
    · cases e
  | n + 1, v, .lst ds, d', e, r => by
    cases e1 : viewL (viewN n A) ds with
    | none => unfold viewN at e; rw [e1] at e; cases e
    | some ds1 =>
      unfold viewN at e; rw [e1] at e; cases e
      cases r with
      | lst h t => exact .lst ((lent_ok R).2 _ _ h) (viewL_ok (fun e r => viewN_ok R n e r) e1 t)
  | n + 1, v, .tup ds, d', e, r => by
    cases e1 : viewL (viewN n A) ds with
    | none => unfold viewN at e; rw [e1] at e; cases e
    | some ds1 =>
      unfold viewN at e; rw [e1] at e; cases e
      cases r with
      | tup h t => exact .tup (sqT_mono (lent_ok R).2 h) (viewL_ok (fun e r => viewN_ok R n e r) e1 t)
  | n + 1, v, .non, d', e, r => by cases e; exact r.mono (lent_ok R).2
  | n + 1, v, .bl _, d', e, r => by cases e; exact r.mono (lent_ok R).2
  | n + 1, v, .int _, d', e, r => by cases e; exact r.mono (lent_ok R).2
  | n + 1, v, .str _, d', e, r => by cases e; exact r.mono (lent_ok R).2
  | n + 1, v, .ty _, d', e, r => by cases e; exact r.mono (lent_ok R).2
  | n + 1, v, .dic _, d', e, r => by cases e; exact r.mono (lent_ok R).2
  | n + 1, v, .gdc _, d', e, r => by cases e; exact r.mono (lent_ok R).2
  | n + 1, v, .fn _, d', e, r => by cases e; exact r.mono (lent_ok R).2
  | n + 1, v, .lam _, d', e, r => by cases e; exact r.mono (lent_ok R).2
  | n + 1, v, .frl _, d', e, r => by cases e; exact r.mono (lent_ok R).2
/-- back from a call that had nothing that it may change -/
theorem lent_back {tb : List (Addr × Str)} {F2 H2 : Hp} {A2 : MH} (R : RS0 K tb F A H) (g : Go0 K tb (lent F A H) (fun _ => none) H F2 A2 H2) : Go0 K tb F A H F A H2 := by
  have keep : ∀ b u, H b = some u → Plain u → H2 b = some u := fun b u e p => (g.kp b u e rfl p).1
  refine ⟨Same.refl F, ⟨fun b o e => keep _ _ (R.sub _ _ e) (R.pl _ _ e), fun b o e => ?_, g.rs.tab, R.pl⟩, fun b u e n p => ⟨keep _ _ e p, n, fun _ z => z⟩⟩
  obtain ⟨m1, m2⟩ := R.mem b o e
  obtain ⟨u, hu, pw, _⟩ := m2.there
  exact ⟨m1, m2.mono (Same.refl F) ((keep _ _ hu pw.plain).trans hu.symm)⟩
end
def qCBw (n : Nat) (r : RNQ) (t : TAQ) : TQ := fun s A P => t s A fun xs A1 => okQ (viewL (viewN n A1) xs) fun ys => r ys (fun _ => none) fun d _ => flD d = true ∧ P d A1
section
variable {X : Cx} {T : Tz} {k : Nat} {ar : Arguments} {ps : List Str} {n : Nat} {r : RNQ} {x : Str} {p pos : Pos} {e a b : Expr} {es : List Expr} {t : TAQ} {ta tb : TQ}
theorem fl_rep {K : PySem.W.Frag} {F F' : Hp} {v : V} {d : D} (r : Rep K F v d) (h : flD d = true) : Rep K F' v d := by
  cases r <;> first | (cases h; done) | (constructor; done)
theorem lift_callw {K : PySem.W.Frag} {σ : St} {H : Hp} {Q : VK} {E : XK} (h : lift K T (qCBw n r t) σ H Q) : tCall (liftSp K r) [] E (liftA K T t) σ H Q := by
  obtain ⟨F, A, s, hs, hR, P, ht, k⟩ := h
  refine ⟨F, A, s, hs, hR, _, ht, fun ds A1 vs H1 F1 p1 g1 r1 => ?_⟩
  show liftSp K r (vs ++ []) H1 Q E
  rw [List.append_nil]
  cases e : viewL (viewN n A1) ds with
  | none => rw [e] at p1; exact p1.elim
  | some ys =>
    rw [e] at p1
    have R1 := g1.rs.r0
    exact ⟨T.tb, lent F1 A1 H1, fun _ => none, ys, viewL_ok (fun e r => viewN_ok R1 n e r) e r1, (lent_ok R1).1, _, p1, fun d A' v H' F' ⟨fl, p⟩ g r => k _ _ _ _ _ p (g1.trans (g1.rs.to (lent_back R1 g))) (fl_rep r fl)⟩
/-- f(e, ..), which looks alone -/
theorem pq_fnw (n : Nat) (G : Def X.prog X.w X.K X.mg X.base k x ar ps r) (hr : Room k X.A) (ha : PAQ X T (e :: es) t) (hg : Gl X x := by rfl) (hdb : (x == ("__debug__" : Str)) = false := by decide)
    (he : starEach (e :: es) X.env = (false, eval e X.env) :: starEach es X.env := by rfl) (hpl : (backTo pos (starEach es X.env)).any (·.1) = false := by rfl) : PQ X T (.Call (.Name x p) (e :: es) [] pos) (qCBw n r t) := by
  obtain ⟨f, fd, F, hm, hk, hb, _⟩ := G.is
  exact ⟨(pe_call F hr hg hm hk hb .nil pass0 ha.pa hdb he hpl).wk fun _ _ _ h => lift_callw h⟩
/-- k in d -/
theorem pq_din (hu : X.A.units + 1 < cLine) (ha : PQ X T a ta) (hb : PQ X T b tb) (hm : behindInMarks .In b = false := by rfl) : PQ X T (.Compare a [.In] [b] pos) (qDIn ta tb) := ⟨(pe_cmp (pc_din hu ha.pe hb.pe) hm).wk fun _ _ _ h => lift_din h⟩
end
end Qd


set_option Elab.async false
set_option linter.all false
set_option maxRecDepth 100000
set_option maxHeartbeats 4000000
/-! Second layer, part U: what readings come to; loops by an invariant; a def from what the top has written. -/
namespace Qd
open PySem L2

theorem okQ_iff {α : Type} {o : Option α} {P : α → Prop} : okQ o P ↔ ∃ z, o = some z ∧ P z := by
  cases o with
  | none => exact ⟨fun h => h.elim, fun ⟨_, e, _⟩ => nomatch e⟩
  | some z => exact ⟨fun h => ⟨z, rfl, h⟩, fun ⟨_, e, h⟩ => by cases e; exact h⟩
theorem okQ_mk {α : Type} {o : Option α} {P : α → Prop} {z : α} (e : o = some z) (h : P z) : okQ o P := by rw [e]; exact h
theorem okQ_imp {α : Type} {o : Option α} {P Q : α → Prop} (h : okQ o P) (w : ∀ z, o = some z → P z → Q z) : okQ o Q := by
  cases o with
  | none => exact h
  | some z => exact w z rfl h
theorem qVar_z {d : D} {s : SQ} {A : MH} {P : KQ} : qVar 0 (some d :: s) A P = P d A := rfl
theorem qVar_s {i : Nat} {o : Option D} {s : SQ} {A : MH} {P : KQ} : qVar (i + 1) (o :: s) A P = qVar i s A P := rfl

/-- a pure promise of one, two, three arguments -/
def r1 (f : MH → D → Option D) : RNQ := fun ds A P => ∃ x, ds = [x] ∧ okQ (f A x) fun d => P d A
def r2 (f : MH → D → D → Option D) : RNQ := fun ds A P => ∃ x y, ds = [x, y] ∧ okQ (f A x y) fun d => P d A
theorem r1_len {f : MH → D → Option D} (ds : List D) (A : MH) (P : KQ) (h : r1 f ds A P) : ds.length = 1 := by obtain ⟨x, rfl, _⟩ := h; rfl
theorem r2_len {f : MH → D → D → Option D} (ds : List D) (A : MH) (P : KQ) (h : r2 f ds A P) : ds.length = 2 := by obtain ⟨x, y, rfl, _⟩ := h; rfl
theorem r1_rd {f : MH → D → Option D} {x : D} {A : MH} {P : KQ} : r1 f [x] A P = okQ (f A x) fun d => P d A := propext ⟨fun ⟨_, e, h⟩ => by cases e; exact h, fun h => ⟨_, rfl, h⟩⟩
theorem r2_rd {f : MH → D → D → Option D} {x y : D} {A : MH} {P : KQ} : r2 f [x, y] A P = okQ (f A x y) fun d => P d A := propext ⟨fun ⟨_, _, e, h⟩ => by cases e; exact h, fun h => ⟨_, _, rfl, h⟩⟩

section
variable {P : Program} {w : World} {K : PySem.W.Frag} {mg : Str → Option Value} {base : Heap}
theorem mkDef {k : Nat} {x : Str} {st : Stmt} {ps : List Str} {r : RNQ} (h : ∃ f fd, Fun K x x st f fd ∧ mg x = some (.ref f)) (hok : ∀ f fd, Fun K x x st f fd → FnOk P w K mg base CX0 k f fd ps (liftSp K r))
    (hb : ∀ (kV doc pm : Value) (an : Option Addr) (cdv ct : Value) (us : List Value), us.length = ps.length → bindArgs (PySem.W.fnOf x x (defArgs st) (defBody st) (defScope st) .none kV doc pm an cdv ct) ⟨us, []⟩ = pure (ps.zip us)) : Def P w K mg base k x (defArgs st) ps r := by
  obtain ⟨f, fd, F, hm⟩ := h
  refine ⟨f, fd, hok f fd F, hm, F.kp, F.binds hb, ?_⟩
  obtain ⟨oc, od, kV, doc, pm, an, cdv, ct, osl, e, _⟩ := F.ex
  exact ⟨x, x, defBody st, defScope st, kV, doc, pm, an, cdv, ct, e⟩
theorem mkDefX {k : Nat} {x : Str} {st : Stmt} {ps : List Str} {r : RXQ} (h : ∃ f fd, Fun K x x st f fd ∧ mg x = some (.ref f)) (hok : ∀ f fd, Fun K x x st f fd → FnOk P w K mg base (L2.CX P w) k f fd ps (liftSpX K r))
    (hb : ∀ (kV doc pm : Value) (an : Option Addr) (cdv ct : Value) (us : List Value), us.length = ps.length → bindArgs (PySem.W.fnOf x x (defArgs st) (defBody st) (defScope st) .none kV doc pm an cdv ct) ⟨us, []⟩ = pure (ps.zip us)) : DefX P w K mg base k x (defArgs st) ps r := by
  obtain ⟨f, fd, F, hm⟩ := h
  refine ⟨f, fd, hok f fd F, hm, F.kp, F.binds hb, ?_⟩
  obtain ⟨oc, od, kV, doc, pm, an, cdv, ct, osl, e, _⟩ := F.ex
  exact ⟨x, x, defBody st, defScope st, kV, doc, pm, an, cdv, ct, e⟩
end

/-! ### loops -/
theorem runL_inv {t : Tgt} {tb : TSQ} {E : EndsQ} (I : List D → SQ → MH → Prop)
    (step : ∀ x xs s A (N : SQ → MH → Prop), I (x :: xs) s A → (∀ s A, I xs s A → N s A) → okQ (tset t x s) fun s' => tb { E with nx := N, ct := N, bk := E.nx } s' A) (fin : ∀ s A, I [] s A → E.nx s A) : ∀ ds s A, I ds s A → runL t tb E ds s A
  | [], s, A, h => fin s A h
  | x :: xs, s, A, h => by
    have q := step x xs s A (runL t tb E xs) h (fun s A h => runL_inv I step fin xs s A h)
    unfold runL
    cases e : tset t x s with
    | none => rw [e] at q; exact q.elim
    | some s' => rw [e] at q; exact q
/-- a comprehension, its parts given by an invariant over what is left, what is found -/
theorem compL_inv {t : Tgt} {tt : TTQ} {te : TQ} {s : SQ} {P : List D → MH → Prop} (I : List D → List D → MH → Prop)
    (step : ∀ x xs acc A (Y N : List D → MH → Prop), I (x :: xs) acc A → (∀ acc' A', I xs acc' A' → N acc' A') → okQ (tset t x s) fun s' => tt s' A fun b A1 => if b = true then te s' A1 fun y A2 => acc.length < 100000 ∧ N (acc ++ [y]) A2 else N acc A1)
    (fin : ∀ acc A, I [] acc A → P acc A) : ∀ ds acc A, I ds acc A → compL t tt te s ds acc A P
  | [], acc, A, h => fin acc A h
  | x :: xs, acc, A, h => by
    have q := step x xs acc A (fun _ _ => True) (fun acc' A' => compL t tt te s xs acc' A' P) h (fun acc' A' h => compL_inv I step fin xs acc' A' h)
    unfold compL
    cases e : tset t x s with
    | none => rw [e] at q; exact q.elim
    | some s' => rw [e] at q; exact q
def mapO {α β : Type} (f : α → Option β) : List α → Option (List β)
  | [] => some []
  | x :: xs => match f x, mapO f xs with | some y, some ys => some (y :: ys) | _, _ => none
theorem mapO_map {α β γ : Type} {f : α → Option β} {g : γ → α} {k : γ → β} : ∀ {xs : List γ}, (∀ x ∈ xs, f (g x) = some (k x)) → mapO f (xs.map g) = some (xs.map k)
  | [], _ => rfl
  | x :: xs, h => by
    rw [List.map_cons, List.map_cons]
    unfold mapO
    rw [h x (List.mem_cons_self ..), mapO_map fun y hy => h y (List.mem_cons_of_mem _ hy)]
theorem mapO_comp {α β γ : Type} {f : α → Option β} {g : α → Option γ} (k : β → γ) : ∀ {xs : List α} {ys : List β}, mapO f xs = some ys → (∀ x ∈ xs, ∀ y, f x = some y → g x = some (k y)) → mapO g xs = some (ys.map k)
  | [], ys, e, _ => by cases e; rfl
  | x :: xs, ys, e, h => by
    unfold mapO at e ⊢
    split at e
    · rename_i y ys' e1 e2
      cases e
      rw [h x (List.mem_cons_self ..) y e1, mapO_comp k e2 fun z hz => h z (List.mem_cons_of_mem _ hz)]
      rfl
    · cases e
theorem mapO_length {α β : Type} {f : α → Option β} : ∀ {xs : List α} {ys : List β}, mapO f xs = some ys → ys.length = xs.length
  | [], _, e => by cases e; rfl
  | x :: xs, ys, e => by
    unfold mapO at e
    split at e
    · rename_i y ys' e1 e2
      cases e
      rw [List.length_cons, List.length_cons, mapO_length e2]
    · cases e
/-- a comprehension that changes nothing -/
theorem compL_map {t : Tgt} {te : TQ} {s : SQ} {A : MH} {P : List D → MH → Prop} (f : D → Option D) : ∀ (xs acc : List D), acc.length + xs.length ≤ 100000 →
    (∀ x ∈ xs, ∀ Q : KQ, okQ (f x) (fun y => Q y A) → okQ (tset t x s) fun s' => te s' A Q) → okQ (mapO f xs) (fun ys => P (acc ++ ys) A) → compL t qYes te s xs acc A P
  | [], acc, _, _, h => by rw [mapO, okQ_some, List.append_nil] at h; exact h
  | x :: xs, acc, hl, hf, h => by
    rw [List.length_cons] at hl
    unfold mapO at h
    cases e1 : f x with
    | none => rw [e1] at h; exact h.elim
    | some y =>
      cases e2 : mapO f xs with
      | none => rw [e1, e2] at h; exact h.elim
      | some ys =>
        rw [e1, e2] at h
        have q := hf x (List.mem_cons_self ..) (fun y A2 => acc.length < 100000 ∧ compL t qYes te s xs (acc ++ [y]) A2 P) (by
          rw [e1]
          refine ⟨by omega, compL_map f xs (acc ++ [y]) (by rw [List.length_append, List.length_singleton]; omega) (fun z hz => hf z (List.mem_cons_of_mem _ hz)) ?_⟩
          rw [e2, okQ_some, List.append_assoc]
          exact h)
        unfold compL
        cases e3 : tset t x s with
        | none => rw [e3] at q; exact q.elim
        | some s' => rw [e3] at q; exact q
theorem putA_length {κ : Type} [DecidableEq κ] (kvs : List (κ × D)) (k : κ) (v : D) : (putA kvs k v).length ≤ kvs.length + 1 := by
  unfold putA
  split
  · rw [List.length_map]; omega
  · rw [List.length_append]; exact Nat.le_refl _
def pair2 {κ : Type} (a : Option κ) (b : Option D) : Option (κ × D) := match a, b with | some k, some v => some (k, v) | _, _ => none
/-- a dict comprehension that changes nothing -/
theorem compF_map {κ : Type} [DecidableEq κ] {t : Tgt} {kk : TKQ κ} {tv : TQ} {s : SQ} {A : MH} {P : List (κ × D) → MH → Prop} (kf : D → Option κ) (vf : D → Option D) : ∀ (xs : List D) (acc : List (κ × D)), acc.length + xs.length ≤ 100000 →
    (∀ x ∈ xs, ∀ Q : κ → D → MH → Prop, okQ (pair2 (kf x) (vf x)) (fun p => Q p.1 p.2 A) → okQ (tset t x s) fun s' => kk s' A fun k A2 => tv s' A2 fun v A3 => Q k v A3) → okQ (mapO (fun x => pair2 (kf x) (vf x)) xs) (fun ps => P (mergeA acc ps) A) → compF t qYes kk tv s xs acc A P
  | [], acc, _, _, h => by rw [mapO, okQ_some] at h; exact h
  | x :: xs, acc, hl, hf, h => by
    rw [List.length_cons] at hl
    unfold mapO at h
    cases e1 : pair2 (kf x) (vf x) with
    | none => rw [e1] at h; exact h.elim
    | some p =>
      obtain ⟨k, v⟩ := p
      cases e2 : mapO (fun x => pair2 (kf x) (vf x)) xs with
      | none => rw [e1, e2] at h; exact h.elim
      | some ys =>
        rw [e1, e2] at h
        have q := hf x (List.mem_cons_self ..) (fun k v A2 => acc.length < 100000 ∧ compF t qYes kk tv s xs (putA acc k v) A2 P) (by
          rw [e1]
          refine ⟨by omega, compF_map kf vf xs (putA acc k v) (by have := putA_length acc k v; omega) (fun z hz => hf z (List.mem_cons_of_mem _ hz)) ?_⟩
          rw [e2, okQ_some]
          exact h)
        unfold compF
        cases e3 : tset t x s with
        | none => rw [e3] at q; exact q.elim
        | some s' => rw [e3] at q; exact q
theorem eqD_int {i j : Int} : eqD (.int i) (.int j) = some (decide (i = j)) := by
  have e : eqS (.int i) (.int j) = some (decide (V.int i = V.int j)) := by
    show (if scal (.int i) (.int j) = true then some (decide ((.int i : V) = .int j)) else none) = _
    exact if_pos rfl
  unfold eqD
  rw [e]
  congr 1
  by_cases h : i = j
  · subst h; simp
  · rw [decide_eq_false h, decide_eq_false (fun z => h (by cases z; rfl))]
theorem eqD_str {i j : Str} : eqD (.str i) (.str j) = some (decide (i = j)) := by
  have e : eqS (.str i) (.str j) = some (decide (V.str i = V.str j)) := by
    show (if scal (.str i) (.str j) = true then some (decide ((.str i : V) = .str j)) else none) = _
    exact if_pos rfl
  unfold eqD
  rw [e]
  congr 1
  by_cases h : i = j
  · subst h; simp
  · rw [decide_eq_false h, decide_eq_false (fun z => h (by cases z; rfl))]
theorem eqD_bl {i j : Bool} : eqD (.bl i) (.bl j) = some (decide (i = j)) := by cases i <;> cases j <;> rfl
/-- how many keys True, False there come to be -/
theorem merge_bools (bs : List Bool) : ∀ l : List Bool, l.Nodup → ((mergeA (l.map fun b => (some b, D.bl true)) (bs.map fun b => (some b, D.bl true))).length = 1 ↔ (l ++ bs ≠ [] ∧ ((l ++ bs).all id = true ∨ (l ++ bs).all (!·) = true))) := by
  induction bs with
  | nil =>
    intro l hl
    rw [show mergeA (l.map fun b => (some b, D.bl true)) ([].map fun b => (some b, D.bl true)) = l.map fun b => (some b, D.bl true) from rfl, List.length_map, List.append_nil]
    match l, hl with
    | [], _ => simp
    | [a], _ => cases a <;> simp
    | [a, b], h => cases a <;> cases b <;> simp at h ⊢
    | a :: b :: c :: r, h => cases a <;> cases b <;> cases c <;> simp at h
  | cons b bs ih =>
    intro l hl
    show (mergeA (putA (l.map fun b => (some b, D.bl true)) (some b) (.bl true)) (bs.map fun b => (some b, D.bl true))).length = 1 ↔ _
    by_cases hb : b ∈ l
    · have e : putA (l.map fun b => (some b, D.bl true)) (some b) (.bl true) = l.map fun b => (some b, D.bl true) := by
        unfold putA
        have hh : hasA (l.map fun b => (some b, D.bl true)) (some b) = true := by
          unfold hasA
          rw [List.any_map, List.any_eq_true]
          exact ⟨b, hb, by simp⟩
        rw [if_pos hh, List.map_map]
        refine List.map_congr_left fun x _ => ?_
        show (if some x = some b then (some x, D.bl true) else (some x, D.bl true)) = (some x, D.bl true)
        split <;> rfl
      rw [e, ih l hl]
      have hm : ∀ f : Bool → Bool, (l ++ b :: bs).all f = (l ++ bs).all f := fun f => by
        rw [List.all_append, List.all_append, List.all_cons]
        cases h1 : f b with
        | true => rw [Bool.true_and]
        | false =>
          have : l.all f = false := by
            rw [List.all_eq_false]
            exact ⟨b, hb, by rw [h1]; exact Bool.false_ne_true⟩
          rw [this]; rfl
      rw [hm, hm]
      have hn : l ≠ [] := fun z => by rw [z] at hb; cases hb
      simp [hn]
    · have e : putA (l.map fun b => (some b, D.bl true)) (some b) (.bl true) = (l ++ [b]).map fun b => (some b, D.bl true) := by
        unfold putA
        have hh : ¬ hasA (l.map fun b => (some b, D.bl true)) (some b) = true := by
          unfold hasA
          rw [List.any_map, List.any_eq_true]
          rintro ⟨x, hx, e⟩
          simp at e
          exact hb (e ▸ hx)
        rw [if_neg hh, List.map_append]
        rfl
      rw [e, ih (l ++ [b]) (by
        rw [List.nodup_append]
        exact ⟨hl, by simp, fun x hx y hy => by simp at hy; subst hy; exact fun z => hb (z ▸ hx)⟩), List.append_assoc]
      rfl
theorem ent_noseq {A : MH} {d : D} {kvs : List (D × D)} (h : entD A d = some kvs) : seqD A d = none := by
  unfold entD at h
  split at h
  · rfl
  · rfl
  · rename_i a
    show (match A a with | some (.lst xs) => some xs | _ => none) = none
    split at h
    · rename_i ea; rw [ea]
    · cases h
  · cases h
theorem rList_ent {m : Bool} {A : MH} {d : D} {kvs : List (D × D)} {Q : KQ} (h : entD A d = some kvs) (q : newL m (kvs.map (·.1)) A Q) : rListQ m [d] A Q := by
  show (match seqD A d with | some ys => newL m ys A Q | none => okQ (entD A d) fun kvs => newL m (kvs.map (·.1)) A Q)
  rw [ent_noseq h, h]
  exact q
theorem rList_seq {m : Bool} {A : MH} {d : D} {xs : List D} {Q : KQ} (h : seqD A d = some xs) (q : newL m xs A Q) : rListQ m [d] A Q := by
  show (match seqD A d with | some ys => newL m ys A Q | none => okQ (entD A d) fun kvs => newL m (kvs.map (·.1)) A Q)
  rw [h]
  exact q
theorem mapO_of_map {α β γ : Type} {f : α → Option β} {g : γ → α} : ∀ {xs : List γ}, mapO f (xs.map g) = mapO (fun x => f (g x)) xs
  | [] => rfl
  | x :: xs => by
    rw [List.map_cons]
    unfold mapO
    rw [mapO_of_map]
theorem mapO_congr {α β : Type} {f g : α → Option β} : ∀ {xs : List α}, (∀ x ∈ xs, f x = g x) → mapO f xs = mapO g xs
  | [], _ => rfl
  | x :: xs, h => by
    unfold mapO
    rw [h x (List.mem_cons_self ..), mapO_congr fun y hy => h y (List.mem_cons_of_mem _ hy)]
theorem keyD_k (k : Key) : keyD (kD k) = some k := by cases k <;> rfl
/-- the keys of a dict, sorted -/
def sortKeys (ps : List (Key × D)) : Option (List Key) := match keyInts ps with
  | some ns => some ((srtI ns).map .inl)
  | none => (keyStrs ps).map fun ns => (srtS ns).map .inr
theorem keyInts_len : ∀ {ps : List (Key × D)} {ns : List Int}, keyInts ps = some ns → ns.length = ps.length
  | [], ns, e => by cases e; rfl
  | (.inl i, d) :: r, ns, e => by
    unfold keyInts at e
    cases e1 : keyInts r with
    | none => rw [e1] at e; cases e
    | some ms => rw [e1] at e; cases e; rw [List.length_cons, List.length_cons, keyInts_len e1]
  | (.inr i, d) :: r, ns, e => by cases e
theorem keyStrs_len : ∀ {ps : List (Key × D)} {ns : List Str}, keyStrs ps = some ns → ns.length = ps.length
  | [], ns, e => by cases e; rfl
  | (.inr i, d) :: r, ns, e => by
    unfold keyStrs at e
    cases e1 : keyStrs r with
    | none => rw [e1] at e; cases e
    | some ms => rw [e1] at e; cases e; rw [List.length_cons, List.length_cons, keyStrs_len e1]
  | (.inl i, d) :: r, ns, e => by cases e
theorem rSort_dic {m : Bool} {A : MH} {ps : List (Key × D)} {ks : List Key} {Q : KQ} (h : sortKeys ps = some ks) (hl : ps.length < 64) (q : newL m (ks.map kD) A Q) : rSortQ m [.dic ps] A Q := by
  unfold sortKeys at h
  cases e1 : keyInts ps with
  | some ns =>
    rw [e1] at h; cases h
    rw [List.map_map] at q
    exact .inl ⟨ns, e1, by rw [keyInts_len e1]; exact hl, q⟩
  | none =>
    rw [e1] at h
    cases e2 : keyStrs ps with
    | none => rw [e2] at h; cases h
    | some ns =>
      rw [e2] at h; cases h
      rw [List.map_map] at q
      exact .inr ⟨ns, e2, by rw [keyStrs_len e2]; exact hl, q⟩
theorem sortKeys_len {ps : List (Key × D)} {ks : List Key} (h : sortKeys ps = some ks) : ks.length = ps.length := by
  unfold sortKeys at h
  cases e1 : keyInts ps with
  | some ns =>
    rw [e1] at h; cases h
    rw [List.length_map, srtI, List.length_mergeSort, keyInts_len e1]
  | none =>
    rw [e1] at h
    cases e2 : keyStrs ps with
    | none => rw [e2] at h; cases h
    | some ns =>
      rw [e2] at h; cases h
      rw [List.length_map, srtS, List.length_mergeSort, keyStrs_len e2]
theorem pair2_some {κ : Type} {a : Option κ} {b : Option D} {k : κ} {v : D} (h1 : a = some k) (h2 : b = some v) : pair2 a b = some (k, v) := by rw [h1, h2]; rfl
theorem tset_nm {i : Nat} {d : D} {s : SQ} : tset (.nm i) d s = some (s.set i (some d)) := rfl
theorem tset_tp {ts : List Tgt} {ds : List D} {s : SQ} : tset (.tp ts) (.tup ds) s = tsets ts ds s := rfl
theorem tsets_nil {s : SQ} : tsets [] [] s = some s := rfl
theorem tsets_nm {i : Nat} {ts : List Tgt} {d : D} {ds : List D} {s : SQ} : tsets (.nm i :: ts) (d :: ds) s = tsets ts ds (s.set i (some d)) := rfl
theorem tsets_tp {us ts : List Tgt} {es ds : List D} {s : SQ} : tsets (.tp us :: ts) (.tup es :: ds) s = match tsets us es s with | some s' => tsets ts ds s' | none => none := rfl
theorem wipe_nil {s : SQ} : wipeQ s [] = s := rfl
theorem wipe_cons {s : SQ} {v : Nat} {vs : List Nat} : wipeQ s (v :: vs) = (wipeQ s vs).set v none := rfl
theorem newL_f {ds : List D} {A : MH} {P : KQ} : newL false ds A P = P (.lst ds) A := rfl
theorem newL_t {ds : List D} {A : MH} {P : KQ} : newL true ds A P = ∀ a, A a = none → P (.mut a) (A.set a (.lst ds)) := rfl
theorem itD_lst {xs : List D} : itD (.lst xs) = some xs := rfl
theorem itD_tup {xs : List D} : itD (.tup xs) = some xs := rfl
theorem itD_dic {xs : List (Key × D)} : itD (.dic xs) = some (keysD xs) := rfl
theorem lenD_lst {A : MH} {xs : List D} : lenD A (.lst xs) = some xs.length := rfl
theorem lenD_tup {A : MH} {xs : List D} : lenD A (.tup xs) = some xs.length := rfl
theorem lenD_dic {A : MH} {xs : List (Key × D)} : lenD A (.dic xs) = some xs.length := rfl
theorem dicD_dic {A : MH} {xs : List (Key × D)} : dicD A (.dic xs) = some xs := rfl
theorem isN_non : isN .non = true := rfl
theorem lstD_lst {A : MH} {xs : List D} : lstD A (.lst xs) = some xs := rfl
theorem seqD_lst {A : MH} {xs : List D} : seqD A (.lst xs) = some xs := rfl
theorem seqD_tup {A : MH} {xs : List D} : seqD A (.tup xs) = some xs := rfl
/-! ### loops over places -/
theorem runL_from {t : Tgt} {tb : TSQ} {E : EndsQ} (ds : List D) (I : Nat → SQ → MH → Prop)
    (step : ∀ i x s A (N : SQ → MH → Prop), ds[i]? = some x → I i s A → (∀ s A, I (i + 1) s A → N s A) → okQ (tset t x s) fun s' => tb { E with nx := N, ct := N, bk := E.nx } s' A) (fin : ∀ s A, I ds.length s A → E.nx s A) :
    ∀ (m i : Nat) s A, i + m = ds.length → I i s A → runL t tb E (ds.drop i) s A
  | 0, i, s, A, hi, h => by
    have e : ds.drop i = [] := List.drop_eq_nil_of_le (by omega)
    rw [e]
    exact fin s A (by have : i = ds.length := by omega
                      rw [← this]; exact h)
  | m + 1, i, s, A, hi, h => by
    have hlt : i < ds.length := by omega
    rw [List.drop_eq_getElem_cons hlt]
    have q := step i ds[i] s A (runL t tb E (ds.drop (i + 1))) (List.getElem?_eq_getElem hlt) h (fun s A h => runL_from ds I step fin m (i + 1) s A (by omega) h)
    unfold runL
    cases e : tset t ds[i] s with
    | none => rw [e] at q; exact q.elim
    | some s' => rw [e] at q; exact q
theorem runL_ix {t : Tgt} {tb : TSQ} {E : EndsQ} {ds : List D} {s : SQ} {A : MH} (I : Nat → SQ → MH → Prop) (h0 : I 0 s A)
    (step : ∀ i x s A (N : SQ → MH → Prop), ds[i]? = some x → I i s A → (∀ s A, I (i + 1) s A → N s A) → okQ (tset t x s) fun s' => tb { E with nx := N, ct := N, bk := E.nx } s' A) (fin : ∀ s A, I ds.length s A → E.nx s A) : runL t tb E ds s A := by
  have := runL_from ds I step fin ds.length 0 s A (Nat.zero_add _) h0
  rwa [List.drop_zero] at this
theorem rngD_len {lo : Int} {n : Nat} : (rngD lo n).length = n := by unfold rngD; rw [List.length_map, List.length_range]
theorem rngD_get {lo : Int} {n i : Nat} {x : D} (h : (rngD lo n)[i]? = some x) : i < n ∧ x = .int (lo + (i : Nat)) := by
  unfold rngD at h
  rw [List.getElem?_map] at h
  by_cases hi : i < n
  · rw [List.getElem?_range hi] at h
    exact ⟨hi, (Option.some.inj h).symm⟩
  · rw [List.getElem?_eq_none (by rw [List.length_range]; omega)] at h
    cases h
theorem runL_rng {t : Tgt} {tb : TSQ} {E : EndsQ} {lo : Int} {n : Nat} {s : SQ} {A : MH} (I : Nat → SQ → MH → Prop) (h0 : I 0 s A)
    (step : ∀ i s A (N : SQ → MH → Prop), i < n → I i s A → (∀ s A, I (i + 1) s A → N s A) → okQ (tset t (.int (lo + (i : Nat))) s) fun s' => tb { E with nx := N, ct := N, bk := E.nx } s' A) (fin : ∀ s A, I n s A → E.nx s A) : runL t tb E (rngD lo n) s A :=
  runL_ix I h0 (fun i x s A N hx h k => by
    obtain ⟨hi, rfl⟩ := rngD_get hx
    exact step i s A N hi h k) fun s A h => fin s A (by rw [rngD_len] at h; exact h)
theorem compL_from {t : Tgt} {tt : TTQ} {te : TQ} {s : SQ} {P : List D → MH → Prop} (ds : List D) (I : Nat → List D → MH → Prop)
    (step : ∀ i x acc A (N : List D → MH → Prop), ds[i]? = some x → I i acc A → (∀ acc' A', I (i + 1) acc' A' → N acc' A') → okQ (tset t x s) fun s' => tt s' A fun b A1 => if b = true then te s' A1 fun y A2 => acc.length < 100000 ∧ N (acc ++ [y]) A2 else N acc A1)
    (fin : ∀ acc A, I ds.length acc A → P acc A) : ∀ (m i : Nat) acc A, i + m = ds.length → I i acc A → compL t tt te s (ds.drop i) acc A P
  | 0, i, acc, A, hi, h => by
    have e : ds.drop i = [] := List.drop_eq_nil_of_le (by omega)
    rw [e]
    exact fin acc A (by have : i = ds.length := by omega
                        rw [← this]; exact h)
  | m + 1, i, acc, A, hi, h => by
    have hlt : i < ds.length := by omega
    rw [List.drop_eq_getElem_cons hlt]
    have q := step i ds[i] acc A (fun acc' A' => compL t tt te s (ds.drop (i + 1)) acc' A' P) (List.getElem?_eq_getElem hlt) h (fun acc' A' h => compL_from ds I step fin m (i + 1) acc' A' (by omega) h)
    unfold compL
    cases e : tset t ds[i] s with
    | none => rw [e] at q; exact q.elim
    | some s' => rw [e] at q; exact q
theorem compL_ix {t : Tgt} {tt : TTQ} {te : TQ} {s : SQ} {A : MH} {P : List D → MH → Prop} {ds : List D} (I : Nat → List D → MH → Prop) (h0 : I 0 [] A)
    (step : ∀ i x acc A (N : List D → MH → Prop), ds[i]? = some x → I i acc A → (∀ acc' A', I (i + 1) acc' A' → N acc' A') → okQ (tset t x s) fun s' => tt s' A fun b A1 => if b = true then te s' A1 fun y A2 => acc.length < 100000 ∧ N (acc ++ [y]) A2 else N acc A1)
    (fin : ∀ acc A, I ds.length acc A → P acc A) : compL t tt te s ds [] A P := by
  have := compL_from ds I step fin ds.length 0 [] A (Nat.zero_add _) h0
  rwa [List.drop_zero] at this
theorem minI_snoc {xs : List Int} {x : Int} (h : xs ≠ []) : minI (xs ++ [x]) = min (minI xs) x := by
  have hp : 0 < xs.length := List.length_pos_iff.mpr h
  obtain ⟨m1, m2⟩ := minI_mem hp
  refine (minI_uniq (by rw [List.length_append]; exact Nat.succ_pos _) ?_ ?_).symm
  · rcases Int.le_total (minI xs) x with q | q
    · rw [Int.min_eq_left q]; exact List.mem_append_left _ m1
    · rw [Int.min_eq_right q]; exact List.mem_append_right _ (List.mem_singleton.mpr rfl)
  · intro y hy
    rcases List.mem_append.mp hy with q | q
    · exact Int.le_trans (Int.min_le_left _ _) (m2 y q)
    · rw [List.mem_singleton.mp q]; exact Int.min_le_right _ _
theorem minI_one {x : Int} : minI [x] = x := rfl
/-- a slice of numbers -/
theorem cut_ints {ns : List Int} {a b : Nat} (hb : b ≤ ns.length) : cutD (ns.map .int) (some (a : Int)) (some (b : Int)) = ((ns.drop a).take (b - a)).map .int := by
  unfold cutD
  rw [List.length_map, HT.sIx_nat, HT.sIx_nat, Nat.min_eq_left hb, ← List.map_drop, ← List.map_take]
  by_cases ha : a ≤ ns.length
  · rw [Nat.min_eq_left ha]
  · rw [Nat.min_eq_right (by omega), List.drop_eq_nil_of_le (Nat.le_refl _), List.drop_eq_nil_of_le (by omega : ns.length ≤ a), List.take_nil, List.take_nil]
/-! ### dicts: what is put, what is got -/
section
variable {κ : Type} [DecidableEq κ] {α : Type}
theorem getA_nil {k : κ} : getA ([] : List (κ × α)) k = none := rfl
theorem getA_cons {a : κ × α} {r : List (κ × α)} {k : κ} : getA (a :: r) k = if a.1 = k then some a.2 else getA r k := by
  unfold getA
  rw [List.find?_cons]
  by_cases h : a.1 = k
  · rw [decide_eq_true h, if_pos h]; rfl
  · rw [decide_eq_false h, if_neg h]
theorem getA_none {kvs : List (κ × α)} {k : κ} (h : hasA kvs k = false) : getA kvs k = none := by
  have := hasA_get kvs k
  rw [h] at this
  cases e : getA kvs k with
  | none => rfl
  | some x => rw [e] at this; cases this
theorem getA_append {xs ys : List (κ × α)} {k : κ} : getA (xs ++ ys) k = (getA xs k).or (getA ys k) := by
  induction xs with
  | nil => rfl
  | cons a r ih =>
    rw [List.cons_append, getA_cons, getA_cons, ih]
    split <;> rfl
theorem getA_swap {kvs : List (κ × α)} {k k' : κ} {v : α} : getA (kvs.map fun kv => if kv.1 = k then (kv.1, v) else kv) k' = if k' = k then (getA kvs k').map (fun _ => v) else getA kvs k' := by
  induction kvs with
  | nil => split <;> rfl
  | cons a r ih =>
    rw [List.map_cons, getA_cons, getA_cons, ih]
    by_cases h : a.1 = k
    · rw [if_pos h]
      by_cases h2 : k' = k
      · rw [if_pos h2, if_pos h2, if_pos (show a.1 = k' from h.trans h2.symm), if_pos (h.trans h2.symm)]; rfl
      · rw [if_neg h2, if_neg h2, if_neg (show ¬ a.1 = k' from fun z => h2 (z.symm.trans h)), if_neg (fun z => h2 (z.symm.trans h))]
    · rw [if_neg h]
      by_cases h2 : k' = k
      · rw [if_pos h2, if_pos h2, if_neg (fun z => h (z.trans h2)), if_neg (fun z => h (z.trans h2))]
      · rw [if_neg h2, if_neg h2]
theorem getA_putA {kvs : List (κ × α)} {k k' : κ} {v : α} : getA (putA kvs k v) k' = if k' = k then some v else getA kvs k' := by
  unfold putA
  cases h : hasA kvs k with
  | true =>
    rw [if_pos rfl, getA_swap]
    split
    · rename_i q
      have := hasA_get kvs k
      rw [h] at this
      rw [q]
      cases e : getA kvs k with
      | none => rw [e] at this; cases this
      | some x => rfl
    · rfl
  | false =>
    rw [if_neg Bool.false_ne_true, getA_append, getA_cons, getA_nil]
    by_cases q : k' = k
    · rw [if_pos q, if_pos (show (k, v).1 = k' from q.symm), q, getA_none h]; rfl
    · rw [if_neg q, if_neg (show ¬ (k, v).1 = k' from fun z => q z.symm), Option.or_none]
theorem getA_merge {k : κ} {v : α} : ∀ (ps : List (κ × α)) (acc : List (κ × α)), (∀ p ∈ ps, p.1 = k → p.2 = v) → ((∃ p ∈ ps, p.1 = k) ∨ getA acc k = some v) → getA (mergeA acc ps) k = some v
  | [], acc, _, h => by
    rcases h with ⟨p, hp, _⟩ | h
    · cases hp
    · exact h
  | p :: ps, acc, h1, h2 => by
    show getA (mergeA (putA acc p.1 p.2) ps) k = some v
    refine getA_merge ps _ (fun q hq => h1 q (List.mem_cons_of_mem _ hq)) ?_
    by_cases hk : p.1 = k
    · right
      rw [getA_putA, if_pos hk.symm, h1 p (List.mem_cons_self ..) hk]
    · rcases h2 with ⟨q, hq, e⟩ | h2
      · rcases List.mem_cons.mp hq with z | z
        · exact absurd (z ▸ e) hk
        · exact .inl ⟨q, z, e⟩
      · right
        rw [getA_putA, if_neg (fun z => hk z.symm)]
        exact h2
end
theorem mergeA_length {κ : Type} [DecidableEq κ] : ∀ (ps : List (κ × D)) (acc : List (κ × D)), (mergeA acc ps).length ≤ acc.length + ps.length
  | [], acc => Nat.le_refl _
  | p :: ps, acc => by
    have h1 := mergeA_length ps (putA acc p.1 p.2)
    have h2 := putA_length acc p.1 p.2
    show (mergeA (putA acc p.1 p.2) ps).length ≤ _
    rw [List.length_cons]
    omega
theorem ditD_mut {A : MH} {a : Addr} : ditD A (.mut a) = match A a with | some (.dit kvs) => some kvs | _ => none := rfl
theorem qIx_tup {xs : List D} {i : Int} {A : MH} {P : KQ} : qIx (.tup xs) (.int i) A P = okQ (atI xs i) fun d => P d A := rfl
theorem qIx_lst {xs : List D} {i : Int} {A : MH} {P : KQ} : qIx (.lst xs) (.int i) A P = okQ (atI xs i) fun d => P d A := rfl
theorem keysT_2 {i j : Int} : keysT [.int i, .int j] = some [.inl i, .inl j] := rfl
theorem at2 {A : MH} {a b : Addr} {x y : MO} (h : b ≠ a) : ((A.set a x).set b y) a = some x := by rw [MH.set_ne (Ne.symm h), MH.set_same]
theorem set2a {A : MH} {a b : Addr} {x y z : MO} (h : b ≠ a) : ((A.set a x).set b y).set a z = (A.set a z).set b y := by rw [MH.set_comm h, MH.set_set]
theorem two_le : ([] : List D).length + 1 + 1 ≤ 100000 := by decide
theorem isN_tup {xs : List D} : isN (.tup xs) = false := rfl
theorem isN_lst {xs : List D} : isN (.lst xs) = false := rfl
theorem isN_int {i : Int} : isN (.int i) = false := rfl
theorem isN_dic {xs : List (Key × D)} : isN (.dic xs) = false := rfl
theorem at_nat {xs : List D} {i : Nat} : L2.atI xs (i : Int) = xs[i]? := by
  unfold L2.atI ixN
  by_cases h : i < xs.length
  · simp [h, show ¬ ((i : Int) < 0) by omega, show (i : Int) < xs.length by omega]
  · simp [h, show ¬ ((i : Int) < 0) by omega, show ¬ (i : Int) < xs.length by omega]
theorem at_zero {x : D} {xs : List D} : L2.atI (x :: xs) 0 = some x := at_nat (i := 0)
/-! ### a comprehension within one -/
theorem lookup_mapk {g : Str → NameKind → NameKind} : ∀ (names : List (Str × NameKind)) (x : Str), (names.map fun p => (p.1, g p.1 p.2)).lookup x = (names.lookup x).map (g x)
  | [], _ => rfl
  | (n, k) :: r, x => by
    rw [List.map_cons, List.lookup_cons, List.lookup_cons, lookup_mapk r x]
    cases h : x == n with
    | true => have := eq_of_beq h; subst this; rfl
    | false => rfl
def rlK (env : Env) (n : Str) (k : NameKind) : NameKind := if (k == .free && env.scope.kind == .function && env.kindOf n == some .cell) then .cell else k
theorem blkC_relabel {N : List Str} {sc scope : Scope} {env : Env} {own : List (Str × Nat)} (h : blkC N sc scope own = true) : blkC N (relabel sc env) scope own = true := by
  unfold blkC at *
  simp only [Bool.and_eq_true, List.all_eq_true, decide_eq_true_eq] at h ⊢
  obtain ⟨⟨⟨h1, h2⟩, h3⟩, h4⟩ := h
  refine ⟨⟨⟨h1, h2⟩, h3⟩, fun y hy => ?_⟩
  have q := h4 y hy
  cases e : y.2 with
  | free =>
    rw [e] at q
    show (match (relabel sc env).names.lookup y.1 with | some .cell => true | some .free => true | _ => false) = true
    have hm : (relabel sc env).names = sc.names.map fun p => (p.1, rlK env p.1 p.2) := by
      unfold relabel
      refine List.map_congr_left fun p _ => ?_
      obtain ⟨n, k⟩ := p
      show (if (k == NameKind.free && env.scope.kind == .function && env.kindOf n == some .cell) = true then (n, NameKind.cell) else (n, k)) = (n, if (k == NameKind.free && env.scope.kind == .function && env.kindOf n == some .cell) = true then NameKind.cell else k)
      by_cases z : (k == NameKind.free && env.scope.kind == .function && env.kindOf n == some .cell) = true
      · rw [if_pos z, if_pos z]
      · rw [if_neg z, if_neg z]
    rw [hm, lookup_mapk (g := rlK env)]
    cases el : sc.names.lookup y.1 with
    | none => rw [el] at q; cases q
    | some kk =>
      rw [el] at q
      show (match some (rlK env y.1 kk) with | some .cell => true | some .free => true | _ => false) = true
      cases kk <;> first | (cases q; done) | skip
      · have : rlK env y.1 NameKind.cell = .cell := by unfold rlK; split <;> rfl
        rw [this]
      · have : rlK env y.1 NameKind.free = .cell ∨ rlK env y.1 NameKind.free = .free := by
          unfold rlK
          split
          · exact .inl rfl
          · exact .inr rfl
        rcases this with z | z <;> rw [z]
  | «local» => rw [e] at q; exact q
  | cell => rw [e] at q; exact q
  | _ => rfl
end Qd


set_option Elab.async false
set_option linter.all false
set_option maxRecDepth 100000
set_option maxHeartbeats 4000000
/-! Second layer, part W: plain data: nothing in it can change. -/
namespace Qd
open PySem L2
mutual
def plD : D → Bool
  | .non => true | .bl _ => true | .int _ => true | .str _ => true
  | .tup xs => decide (xs.length ≤ 100000) && plDs xs
  | .lst xs => decide (xs.length ≤ 100000) && plDs xs
  | .dic kvs => decide (kvs.length ≤ 100000) && plKs kvs
  | .gdc kvs => decide (kvs.length ≤ 100000) && plPs kvs
  | _ => false
def plDs : List D → Bool
  | [] => true
  | x :: xs => plD x && plDs xs
def plKs : List (Key × D) → Bool
  | [] => true
  | (_, x) :: xs => plD x && plKs xs
def plPs : List (D × D) → Bool
  | [] => true
  | (k, x) :: xs => plD k && (plD x && plPs xs)
end
theorem plDs_all {xs : List D} : plDs xs = true ↔ ∀ x ∈ xs, plD x = true := by
  induction xs with
  | nil => exact ⟨fun _ x h => (by cases h), fun _ => rfl⟩
  | cons a r ih =>
    rw [plDs, Bool.and_eq_true, ih]
    exact ⟨fun ⟨h1, h2⟩ x hx => (List.mem_cons.mp hx).elim (fun e => e ▸ h1) (h2 x), fun h => ⟨h a (List.mem_cons_self ..), fun x hx => h x (List.mem_cons_of_mem _ hx)⟩⟩
def tyF : D → Ty
  | .non => .non | .bl _ => .bl | .int _ => .int | .str _ => .str | .tup _ => .tup | .lst _ => .lst | .frl _ => .lst | .dic _ => .dic | .gdc _ => .dic
  | _ => .non
theorem pl_ty {A : MH} {d : D} (h : plD d = true) : tyQ A d = some (tyF d) := by
  cases d <;> first | rfl | cases h
def seqF : D → Option (List D)
  | .lst xs => some xs
  | .tup xs => some xs
  | _ => none
theorem seqF_len {A : MH} {d : D} {xs : List D} (h : seqF d = some xs) : lenD A d = some xs.length := by
  cases d <;> first | (cases h; done) | (cases h; rfl)
theorem seqF_it {d : D} {xs : List D} (h : seqF d = some xs) : itD d = some xs := by
  cases d <;> first | (cases h; done) | (cases h; rfl)
theorem seqF_pl {d : D} {xs : List D} (h : seqF d = some xs) (p : plD d = true) : plDs xs = true := by
  cases d <;> first | (cases h; done) | (cases h; exact (Bool.and_eq_true_iff.mp p).2)
theorem seqF_big {d : D} {xs : List D} (h : seqF d = some xs) (p : plD d = true) : xs.length ≤ 100000 := by
  cases d <;> first | (cases h; done) | (cases h; exact of_decide_eq_true (Bool.and_eq_true_iff.mp p).1)
theorem seqF_ix {d : D} {xs : List D} {i : Int} {A : MH} {P : KQ} (h : seqF d = some xs) : qIx d (.int i) A P = okQ (L2.atI xs i) fun d => P d A := by
  cases d <;> first | (cases h; done) | (cases h; rfl)
theorem pl_seq {d : D} (p : plD d = true) : (seqF d).isSome = (decide (tyF d = .lst) || decide (tyF d = .tup)) := by
  cases d <;> first | rfl | cases p
theorem seqF_enum {d : D} {xs : List D} {s : SQ} {A : MH} {P : List D → MH → Prop} {te : TQ} (h : seqF d = some xs) (hte : ∀ Q : KQ, te s A Q = Q d A) (q : P (numL xs) A) : qEnum te s A P := by
  unfold qEnum
  rw [hte]
  cases d <;> first | (cases h; done) | (cases h; exact q)
/-! ### == of things that may change -/
section
variable {X : Cx} {T : Tz} {a b : Expr} {ta tb : TQ} {pos : Pos}
def qEqV (n : Nat) (neg : Bool) : R2Q := fun x y A P => okQ (viewN n A x) fun x' => okQ (viewN n A y) fun y' => okQ (eqD x' y') fun b => P (.bl (if neg then !b else b)) A
theorem eqV_cases {K : PySem.W.Frag} {n : Nat} {neg : Bool} {F A H x y xv yv} {P : KQ} {Q : VK} (R : RS K T F A H) (rx : Rep K F xv x) (ry : Rep K F yv y) (h : qEqV n neg x y A P) (k : ∀ d A' v H' F', P d A' → Go K T F A H F' A' H' → Rep K F' v d → Q v H') :
    ∃ b : Bool, Q (.bl (if neg then !b else b)) H ∧ ((scal xv yv = true ∧ decide (xv = yv) = b) ∨ ∃ d d2, Dp K H xv d ∧ Dp K H yv d2 ∧ SeqAt.shaped d = true ∧ SeqAt.shaped d2 = true ∧ PyData.eqv d d2 = b) := by
  unfold qEqV at h
  obtain ⟨x', e1, h⟩ := okQ_iff.mp h
  obtain ⟨y', e2, h⟩ := okQ_iff.mp h
  obtain ⟨b, e3, h⟩ := okQ_iff.mp h
  have rx' := viewN_ok R.r0 n e1 rx
  have ry' := viewN_ok R.r0 n e2 ry
  refine ⟨b, k _ _ _ _ _ h R.go (.bl _), ?_⟩
  unfold eqD at e3
  cases h1 : eqS x' y' with
  | some b' =>
    rw [h1] at e3; cases e3
    exact .inl (eqS_rep rx' ry' h1)
  | none =>
    rw [h1] at e3
    exact .inr (eqP_rep (lent_ok R.r0).1.sub rx' ry' e3)
theorem rel_eqV {K : PySem.W.Frag} {n : Nat} : Rel2 K T (fun x y H Q => rEq x y H Q ∨ rEqD K x y H Q) (qEqV n false) := by
  intro F A H x y xv yv P Q R rx ry h k
  obtain ⟨b, q, h | ⟨d, d2, q1, q2, q3, q4, q5⟩⟩ := eqV_cases R rx ry h k
  · exact .inl ⟨h.1, by rw [h.2]; exact q⟩
  · exact .inr ⟨d, d2, q1, q2, q3, q4, by rw [q5]; exact q⟩
theorem rel_neV {K : PySem.W.Frag} {n : Nat} : Rel2 K T (fun x y H Q => rNe x y H Q ∨ rNeD K x y H Q) (qEqV n true) := by
  intro F A H x y xv yv P Q R rx ry h k
  obtain ⟨b, q, h | ⟨d, d2, q1, q2, q3, q4, q5⟩⟩ := eqV_cases R rx ry h k
  · exact .inl ⟨h.1, by rw [h.2]; exact q⟩
  · exact .inr ⟨d, d2, q1, q2, q3, q4, by rw [q5]; exact q⟩
theorem pq_eqv (n : Nat) (hu : X.A.units + 64 < cLine) (ha : PQ X T a ta) (hb : PQ X T b tb) : PQ X T (.Compare a [.Eq] [b] pos) (qOp (qEqV n false) ta tb) := pq_cmp rel_eqV (OpR.or op_eq (op_eqD hu)) ha hb (nomark _)
theorem pq_nev (n : Nat) (hu : X.A.units + 64 < cLine) (ha : PQ X T a ta) (hb : PQ X T b tb) : PQ X T (.Compare a [.NotEq] [b] pos) (qOp (qEqV n true) ta tb) := pq_cmp rel_neV (OpR.or op_ne (op_neD hu)) ha hb (nomark _)
theorem ptq_eqv (n : Nat) (hu : X.A.units + 64 < cLine) (ha : PQ X T a ta) (hb : PQ X T b tb) : PTQ X T (.Compare a [.Eq] [b] pos) (qTest (qOp (qEqV n false) ta tb)) := ptq_cmp rel_eqV (OpR.or op_eq (op_eqD hu)) ha hb (nomark _)
theorem ptq_nev (n : Nat) (hu : X.A.units + 64 < cLine) (ha : PQ X T a ta) (hb : PQ X T b tb) : PTQ X T (.Compare a [.NotEq] [b] pos) (qTest (qOp (qEqV n true) ta tb)) := ptq_cmp rel_neV (OpR.or op_ne (op_neD hu)) ha hb (nomark _)
end
theorem qIx_mut {A : MH} {a : Addr} {i : Int} {P : KQ} {xs : List D} (h : A a = some (.lst xs)) : qIx (.mut a) (.int i) A P = okQ (L2.atI xs i) fun d => P d A := by
  show (match A a with | some (.lst xs) => okQ (L2.atI xs i) fun d => P d A | _ => False) = _
  rw [h]
theorem setL_mut {A : MH} {a : Addr} {i : Int} {v : D} {P : MH → Prop} {xs : List D} (h : A a = some (.lst xs)) : setL (.mut a) (.int i) v A P = okQ (ixN xs.length i) fun n => P (A.set a (.lst (xs.set n v))) := by
  show (match A a with | some (.lst xs) => okQ (ixN xs.length i) fun n => P (A.set a (.lst (xs.set n v))) | _ => False) = _
  rw [h]
theorem ix_nat {n i : Nat} (h : i < n) : ixN n (i : Int) = some i := by
  unfold ixN
  rw [if_pos (by omega), if_pos (by omega), Int.toNat_natCast]
theorem app_mut {A : MH} {a : Addr} {y : D} {P : KQ} {xs : List D} (h : A a = some (.lst xs)) : rAppQ (.mut a) [y] A P = (xs.length < 100000 ∧ P .non (A.set a (.lst (xs ++ [y])))) := by
  show (match A a with | some (.lst xs) => xs.length < 100000 ∧ P .non (A.set a (.lst (xs ++ [y]))) | _ => False) = _
  rw [h]
theorem pop_mut {A : MH} {a : Addr} {i : Int} {P : KQ} {xs : List D} (h : A a = some (.lst xs)) : rPopQ (.mut a) [.int i] A P = (0 ≤ i ∧ i < 100000 ∧ okQ (xs[i.toNat]?) fun y => P y (A.set a (.lst (xs.eraseIdx i.toNat)))) := by
  show (match A a with | some (.lst xs) => 0 ≤ i ∧ i < 100000 ∧ okQ (xs[i.toNat]?) fun y => P y (A.set a (.lst (xs.eraseIdx i.toNat))) | _ => False) = _
  rw [h]
theorem at4_0 {p q r s : D} : L2.atI [p, q, r, s] 0 = some p := rfl
theorem at4_1 {p q r s : D} : L2.atI [p, q, r, s] 1 = some q := rfl
theorem at4_2 {p q r s : D} : L2.atI [p, q, r, s] 2 = some r := rfl
theorem at4_3 {p q r s : D} : L2.atI [p, q, r, s] 3 = some s := rfl
theorem ix4_1 : ixN (0 + 1 + 1 + 1 + 1) 1 = some 1 := rfl
theorem ix4_2 : ixN (0 + 1 + 1 + 1 + 1) 2 = some 2 := rfl
theorem ix4_3 : ixN (0 + 1 + 1 + 1 + 1) 3 = some 3 := rfl
theorem isLm_mut {A : MH} {a : Addr} {xs : List D} (h : A a = some (.lst xs)) : qMeth.isLm A (.mut a) = True := by
  unfold qMeth.isLm
  simp [h]
theorem toPys_ints : ∀ cs : List Int, toPys (cs.map .int) = some (cs.map .int)
  | [] => rfl
  | c :: cs => by
    rw [List.map_cons]
    show (match toPy (.int c), toPys (cs.map .int) with | some d, some ds => some (d :: ds) | _, _ => none) = _
    rw [toPys_ints cs]
    rfl
theorem canLay_ints : ∀ cs : List Int, PyData.canLayAll0 (cs.map .int) = true
  | [] => by simp [PyData.canLayAll0]
  | c :: cs => by simp [PyData.canLayAll0, PyData.canLay0, canLay_ints cs]
theorem depth_ints : ∀ cs : List Int, PyData.depthAll (cs.map .int) ≤ 1
  | [] => by simp [PyData.depthAll]
  | c :: cs => by
    have := depth_ints cs
    simp [PyData.depthAll, PyData.depth]
    omega
theorem shaped_ints (cs : List Int) : SeqAt.shaped (.list (cs.map .int)) = true := by
  unfold SeqAt.shaped
  rw [Bool.and_eq_true]
  refine ⟨?_, decide_eq_true ?_⟩
  · simp [PyData.canLay0, canLay_ints cs]
  · have := depth_ints cs
    simp [PyData.depth]
    omega
theorem eqD_nil (cs : List Int) : eqD (.lst (cs.map .int)) (.lst []) = some (decide (cs = [])) := by
  have e : eqP (.lst (cs.map .int)) (.lst []) = some (decide (cs = [])) := by
    unfold eqP
    rw [show toPy (.lst (cs.map .int)) = some (.list (cs.map .int)) by unfold toPy; rw [toPys_ints]; rfl, show toPy (.lst []) = some (.list []) from rfl]
    show (if SeqAt.shaped (.list (cs.map .int)) = true ∧ SeqAt.shaped (.list []) = true then some (PyData.eqv (.list (cs.map .int)) (.list [])) else none) = _
    rw [if_pos ⟨shaped_ints cs, shaped_ints []⟩]
    cases cs with
    | nil => simp [PyData.eqv, PyData.eqvAll]
    | cons c cs => simp [PyData.eqv, PyData.eqvAll]
  unfold eqD
  rw [show eqS (.lst (cs.map .int)) (.lst []) = none from rfl]
  exact e
theorem view_ints {n : Nat} {A : MH} : ∀ cs : List Int, viewL (viewN n A) (cs.map .int) = some (cs.map .int)
  | [] => rfl
  | c :: cs => by
    rw [List.map_cons]
    unfold viewL
    rw [view_ints cs]
    have : viewN n A (.int c) = some (.int c) := by cases n <;> rfl
    rw [this]
theorem view_mut {n : Nat} {A : MH} {a : Addr} {cs : List Int} (h : A a = some (.lst (cs.map .int))) : viewN (n + 1) A (.mut a) = some (.lst (cs.map .int)) := by
  show (match A a with | some (.lst ds) => (viewL (viewN n A) ds).map D.lst | _ => none) = _
  rw [h]
  show (viewL (viewN n A) (cs.map .int)).map D.lst = _
  rw [view_ints]
  rfl
theorem view_nil {n : Nat} {A : MH} : viewN (n + 1) A (.lst []) = some (.lst []) := rfl
theorem len_mut {A : MH} {a : Addr} {xs : List D} (h : A a = some (.lst xs)) : lenD A (.mut a) = some xs.length := by
  show (match A a with | some (.lst xs) => some xs.length | some (.dic kvs) => some kvs.length | _ => none) = _
  rw [h]
theorem fz_mut {t : TQ} {s : SQ} {A : MH} {a : Addr} {xs : List D} {P : KQ} (h : A a = some (.lst xs)) (ht : ∀ Q : KQ, t s A Q = Q (.mut a) A) : qFz t s A P = P (.lst xs) (A.del a) := by
  unfold qFz
  rw [ht]
  show (match A a with | some (.lst ds) => P (.lst ds) (A.del a) | _ => False) = _
  rw [h]
theorem perm_erase {α : Type} : ∀ (xs : List α) (j : Nat) (h : j < xs.length), (xs[j] :: xs.eraseIdx j).Perm xs
  | x :: xs, 0, _ => .refl _
  | x :: xs, j + 1, h => by
    have h' : j < xs.length := Nat.lt_of_succ_lt_succ h
    have := perm_erase xs j h'
    show (xs[j] :: x :: xs.eraseIdx j).Perm (x :: xs)
    exact (List.Perm.swap x xs[j] _).trans (this.cons x)
mutual
/-- how deep data goes, as a comparison item by item goes into it -/
def dep : D → Nat
  | .tup xs => deps xs + 1
  | .lst xs => deps xs + 1
  | .dic kvs => depK kvs + 3
  | .gdc kvs => depP kvs + 3
  | _ => 0
def deps : List D → Nat
  | [] => 0
  | x :: xs => max (dep x) (deps xs)
def depK : List (Key × D) → Nat
  | [] => 0
  | (_, x) :: xs => max (dep x) (depK xs)
def depP : List (D × D) → Nat
  | [] => 0
  | (k, x) :: xs => max (dep k) (max (dep x) (depP xs))
end
theorem deps_le {xs : List D} {x : D} (h : x ∈ xs) : dep x ≤ deps xs := by
  induction xs with
  | nil => cases h
  | cons a r ih =>
    rw [deps]
    rcases List.mem_cons.mp h with e | e
    · rw [e]; exact Nat.le_max_left _ _
    · exact Nat.le_trans (ih e) (Nat.le_max_right _ _)
theorem pl_kD (k : Key) : plD (kD k) = true ∧ dep (kD k) = 0 := by cases k <;> exact ⟨rfl, rfl⟩
theorem items_pl : ∀ {ps : List (D × D)}, plPs ps = true → plDs (ps.map fun p => .tup [p.1, p.2]) = true
  | [], _ => rfl
  | (k, x) :: r, h => by
    rw [plPs, Bool.and_eq_true, Bool.and_eq_true] at h
    rw [List.map_cons, plDs, items_pl h.2.2]
    have : plD (.tup [k, x]) = true := by
      rw [plD, plDs, plDs, plDs, h.1, h.2.1]; rfl
    show (plD (.tup [k, x]) && true) = true
    rw [this]; rfl
theorem items_dep : ∀ {ps : List (D × D)}, deps (ps.map fun p => .tup [p.1, p.2]) ≤ depP ps + 1
  | [] => Nat.zero_le _
  | (k, x) :: r => by
    have := items_dep (ps := r)
    rw [List.map_cons, deps, depP]
    show max (max (dep k) (max (dep x) 0) + 1) _ ≤ _
    omega
theorem plKs_P : ∀ {kvs : List (Key × D)}, plKs kvs = true → plPs (kvs.map fun p => (kD p.1, p.2)) = true
  | [], _ => rfl
  | (k, x) :: r, h => by
    rw [plKs, Bool.and_eq_true] at h
    rw [List.map_cons, plPs, plKs_P h.2, (pl_kD k).1, h.1]; rfl
theorem depK_P : ∀ {kvs : List (Key × D)}, depP (kvs.map fun p => (kD p.1, p.2)) = depK kvs
  | [] => rfl
  | (k, x) :: r => by
    rw [List.map_cons, depP, depK, depK_P, (pl_kD k).2, Nat.zero_max]
end Qd


set_option Elab.async false
set_option linter.all false
set_option maxRecDepth 100000
set_option maxHeartbeats 4000000
/-! Second layer, part X: comprehensions over mapped lists, loops the other way about, freezing, plain bounded data. -/
namespace Qd
open PySem L2
theorem Def.imp {P : Program} {w : World} {K : PySem.W.Frag} {mg : Str → Option Value} {base : Heap} {k : Nat} {x : Str} {ar : Arguments} {ps : List Str} {r q : RNQ} (G : Def P w K mg base k x ar ps r) (h : ∀ ds A P, q ds A P → r ds A P) : Def P w K mg base k x ar ps q := by
  obtain ⟨f, fd, F, rest⟩ := G.is
  refine ⟨f, fd, F.imp fun vs H Q E ⟨tb, F0, A, ds, h1, h2, P, h3, h4⟩ => ⟨tb, F0, A, ds, h1, h2, P, h _ _ _ h3, h4⟩, rest⟩
theorem DefX.imp {P : Program} {w : World} {K : PySem.W.Frag} {mg : Str → Option Value} {base : Heap} {k : Nat} {x : Str} {ar : Arguments} {ps : List Str} {r q : RXQ} (G : DefX P w K mg base k x ar ps r) (h : ∀ ds A P x2, q ds A P x2 → r ds A P x2) : DefX P w K mg base k x ar ps q := by
  obtain ⟨f, fd, F, rest⟩ := G.is
  refine ⟨f, fd, F.imp fun vs H Q E ⟨tb, F0, A, ds, h1, h2, P, x2, h3, h4, h5⟩ => ⟨tb, F0, A, ds, h1, h2, P, x2, h _ _ _ _ h3, h4, h5⟩, rest⟩
theorem mapO_some {α β : Type} (g : α → β) : ∀ xs : List α, mapO (fun x => some (g x)) xs = some (xs.map g)
  | [] => rfl
  | x :: xs => by
    show (match some (g x), mapO (fun x => some (g x)) xs with | some y, some ys => some (y :: ys) | _, _ => none) = _
    rw [mapO_some g xs]; rfl
theorem compL_acc {γ : Type} {t : Tgt} {te : TQ} {s : SQ} {A : MH} {P : List D → MH → Prop} (k g : γ → D) : ∀ (ys : List γ) (acc : List D), acc.length + ys.length ≤ 100000 →
    (∀ y ∈ ys, ∀ Q : KQ, Q (g y) A → okQ (tset t (k y) s) fun s' => te s' A Q) → P (acc ++ ys.map g) A → compL t qYes te s (ys.map k) acc A P
  | [], acc, _, _, h => by
    rw [List.map_nil, List.append_nil] at h
    exact h
  | y :: ys, acc, hl, h, fin => by
    rw [List.length_cons] at hl
    have h1 := h y (List.mem_cons_self ..) (fun v A2 => acc.length < 100000 ∧ compL t qYes te s (ys.map k) (acc ++ [v]) A2 P)
      ⟨by omega, compL_acc k g ys (acc ++ [g y]) (by rw [List.length_append, List.length_singleton]; omega) (fun z hz => h z (List.mem_cons_of_mem _ hz)) (by rw [List.append_assoc]; exact fin)⟩
    rw [List.map_cons]
    unfold compL
    cases e : tset t (k y) s with
    | none => rw [e] at h1; exact h1.elim
    | some s' => rw [e] at h1; exact h1
theorem compL_of {γ : Type} {t : Tgt} {te : TQ} {s : SQ} {A : MH} {P : List D → MH → Prop} (k g : γ → D) (ys : List γ) (hl : ys.length ≤ 100000)
    (h : ∀ y ∈ ys, ∀ Q : KQ, Q (g y) A → okQ (tset t (k y) s) fun s' => te s' A Q) (fin : P (ys.map g) A) : compL t qYes te s (ys.map k) [] A P :=
  compL_acc k g ys [] (by simpa using hl) h (by simpa using fin)
theorem compL_fn {t : Tgt} {te : TQ} {s : SQ} {A : MH} {P : List D → MH → Prop} (g : D → D) (xs : List D) (hl : xs.length ≤ 100000)
    (h : ∀ y ∈ xs, ∀ Q : KQ, Q (g y) A → okQ (tset t y s) fun s' => te s' A Q) (fin : P (xs.map g) A) : compL t qYes te s xs [] A P := by
  have := compL_of (t := t) (te := te) (s := s) (A := A) (P := P) id g xs hl h fin
  rwa [List.map_id] at this
theorem compL_id {t : Tgt} {te : TQ} {s : SQ} {A : MH} {P : List D → MH → Prop} (xs : List D) (hl : xs.length ≤ 100000)
    (h : ∀ y ∈ xs, ∀ Q : KQ, Q y A → okQ (tset t y s) fun s' => te s' A Q) (fin : P xs A) : compL t qYes te s xs [] A P := compL_fn id xs hl h (by rw [List.map_id]; exact fin)
theorem compL_rng {t : Tgt} {te : TQ} {s : SQ} {A : MH} {P : List D → MH → Prop} {lo : Int} {n : Nat} (g : Nat → D) (hn : n ≤ 100000)
    (h : ∀ i, i < n → ∀ Q : KQ, Q (g i) A → okQ (tset t (.int (lo + (i : Nat))) s) fun s' => te s' A Q) (fin : P ((List.range n).map g) A) : compL t qYes te s (rngD lo n) [] A P :=
  compL_of (fun i : Nat => .int (lo + (i : Nat))) g (List.range n) (by rw [List.length_range]; exact hn) (fun i hi => h i (List.mem_range.mp hi)) fin
/-- a comprehension whose items may change the state: item i is R-related -/
theorem compL_st {t : Tgt} {te : TQ} {s : SQ} {A : MH} {P : List D → MH → Prop} {ds : List D} (I : Nat → MH → Prop) (R : Nat → D → D → Prop) (hl : ds.length ≤ 100000) (h0 : I 0 A)
    (step : ∀ i x A, ds[i]? = some x → I i A → ∀ Q : KQ, (∀ y A', R i x y → I (i + 1) A' → Q y A') → okQ (tset t x s) fun s' => te s' A Q)
    (fin : ∀ out A', out.length = ds.length → (∀ i x y, ds[i]? = some x → out[i]? = some y → R i x y) → I ds.length A' → P out A') : compL t qYes te s ds [] A P := by
  refine compL_ix (fun i acc A => acc.length = i ∧ I i A ∧ ∀ j x y, ds[j]? = some x → acc[j]? = some y → R j x y) ⟨rfl, h0, fun j x y _ h => by simp at h⟩ ?_ fun acc A ⟨h1, h2, h3⟩ => fin acc A h1 h3 h2
  rintro i x acc A N hx ⟨rfl, hi, hr⟩ next
  have hlt : acc.length < ds.length := (List.getElem?_eq_some_iff.mp hx).1
  have h1 := step acc.length x A hx hi (fun y A2 => acc.length < 100000 ∧ N (acc ++ [y]) A2) fun y A' hy hi' => ⟨by omega, next _ _ ⟨by rw [List.length_append]; rfl, hi', fun j x2 y2 h2 h3 => ?_⟩⟩
  · exact h1
  · by_cases hj : j < acc.length
    · rw [List.getElem?_append_left hj] at h3
      exact hr j x2 y2 h2 h3
    · have hjl : j < (acc ++ [y]).length := (List.getElem?_eq_some_iff.mp h3).1
      rw [List.length_append, List.length_singleton] at hjl
      obtain rfl : j = acc.length := by omega
      rw [List.getElem?_append_right (Nat.le_refl _), Nat.sub_self] at h3
      cases h3
      rw [hx] at h2; cases h2
      exact hy
/-- a loop over n - 1, .., 0 -/
theorem runL_down {t : Tgt} {tb : TSQ} {E : EndsQ} {n : Nat} {s : SQ} {A : MH} (I : Nat → SQ → MH → Prop) (h0 : I 0 s A)
    (step : ∀ i s A (N : SQ → MH → Prop), i < n → I i s A → (∀ s A, I (i + 1) s A → N s A) → okQ (tset t (.int ((n - 1 - i : Nat) : Int)) s) fun s' => tb { E with nx := N, ct := N, bk := E.nx } s' A) (fin : ∀ s A, I n s A → E.nx s A) : runL t tb E (rngD 0 n).reverse s A := by
  refine runL_ix I h0 (fun i x s A N hx hi next => ?_) fun s A h => fin s A (by rwa [List.length_reverse, rngD_len] at h)
  have hlt : i < n := by
    have := (List.getElem?_eq_some_iff.mp hx).1
    rwa [List.length_reverse, rngD_len] at this
  rw [List.getElem?_reverse (by rw [rngD_len]; exact hlt), rngD_len] at hx
  obtain ⟨_, rfl⟩ := rngD_get hx
  rw [Int.zero_add]
  exact step i s A N hlt hi next
/-- one statement at a time: what follows is a letter -/
theorem qSeq_st {t u : TSQ} {D : EndsQ} {s : SQ} {A : MH} (h : ∀ N : SQ → MH → Prop, (∀ s' A', u D s' A' → N s' A') → t { D with nx := N } s A) : qSeq t u D s A := h (u D) fun _ _ x => x
theorem perm_map {α β : Type} {f : α → β} {ys zs : List β} (h : ys.Perm zs) : ∀ l : List α, zs = l.map f → ∃ l' : List α, ys = l'.map f ∧ l'.Perm l := by
  induction h with
  | nil => intro l e; exact ⟨l, e, .refl _⟩
  | cons x _ ih =>
    intro l e
    cases l with
    | nil => cases e
    | cons a l =>
      injection e with e1 e2
      obtain ⟨l', h1, h2⟩ := ih l e2
      exact ⟨a :: l', by rw [List.map_cons, ← h1, e1], h2.cons a⟩
  | swap x y l0 =>
    intro l e
    match l, e with
    | a :: b :: l, e =>
      injection e with e1 e2; injection e2 with e2 e3
      exact ⟨b :: a :: l, by rw [List.map_cons, List.map_cons, ← e1, ← e2, ← e3], .swap a b l⟩
  | trans _ _ i1 i2 =>
    intro l e
    obtain ⟨l2, h1, h2⟩ := i2 l e
    obtain ⟨l3, h3, h4⟩ := i1 l2 h1
    exact ⟨l3, h3, h4.trans h2⟩
theorem any_seq {d : D} (p : plD d = true) : [Ty.lst, Ty.tup].any (tyF d).sub = (seqF d).isSome := by
  rw [pl_seq p]; cases tyF d <;> rfl
theorem rDict_lst {A : MH} {xs : List D} {kvs : List (Key × D)} {P : KQ} (h : pairsD xs = some kvs) (k : newD true (mergeA [] kvs) A P) : rDictQ [.lst xs] A P := by
  unfold rDictQ
  simp only [dicD, lstD, Option.bind_some, h, okQ_some]
  exact k
theorem rDict_dic {A : MH} {kvs : List (Key × D)} {P : KQ} (k : newD true kvs A P) : rDictQ [.dic kvs] A P := k
/-- a dict that is frozen at once -/
theorem newD_fz {kvs : List (Key × D)} {A : MH} {P : KQ} (h : P (.dic kvs) A) : newD true kvs A (fun d A1 => match d with
  | .mut a => match A1 a with
    | some (.dic kvs) => P (.dic kvs) (A1.del a)
    | _ => False
  | _ => False) := by
  intro a ha
  simp only [MH.set_same, MH.del_set ha]
  exact h
theorem cut_take {xs : List D} {b : Nat} : cutD xs none (some (b : Int)) = xs.take b := by
  unfold cutD
  rw [HT.sIx_nat, HT.sIx_none, List.drop_zero, Nat.sub_zero]
  by_cases h : b ≤ xs.length
  · rw [Nat.min_eq_left h]
  · rw [Nat.min_eq_right (by omega), List.take_of_length_le (Nat.le_refl _), List.take_of_length_le (by omega)]
theorem cut_drop {xs : List D} {b : Nat} : cutD xs (some (b : Int)) none = xs.drop b := by
  unfold cutD
  rw [HT.sIx_nat, HT.sIx_none]
  by_cases h : b ≤ xs.length
  · rw [Nat.min_eq_left h, List.take_of_length_le (by rw [List.length_drop]; omega)]
  · rw [Nat.min_eq_right (by omega), Nat.sub_self, List.take_zero, List.drop_eq_nil_of_le (by omega)]
theorem rngD_at {lo : Int} {n i : Nat} (h : i < n) : (rngD lo n)[i]? = some (.int (lo + (i : Nat))) := by
  unfold rngD
  rw [List.getElem?_map, List.getElem?_range h]; rfl
theorem newD_fz_eq {kvs : List (Key × D)} {A : MH} {P : KQ} : newD true kvs A (fun d A1 => match d with
  | .mut a => match A1 a with
    | some (.dic kvs) => P (.dic kvs) (A1.del a)
    | _ => False
  | _ => False) = (∀ a, A a = none → P (.dic kvs) A) := by
  refine propext ⟨fun h a ha => ?_, fun h a ha => ?_⟩
  · have := h a ha
    simp only [MH.set_same, MH.del_set ha] at this
    exact this
  · simp only [MH.set_same, MH.del_set ha]
    exact h a ha
/-- displays that are frozen at once -/
def qDispF (tr : TPQ) : TQ := fun s A P => tr s A fun ps A1 => ps.length ≤ 15 ∧ okQ (keyPs ps) fun kvs => ∀ a, A1 a = none → P (.dic (mergeA [] kvs)) A1
def qNewF : TQ := fun _ A P => ∀ a, A a = none → P (.dic []) A
def qDictF (t : TAQ) : TQ := fun s A P => t s A fun xs A1 => match xs with
  | [d] => match dicD A1 d with
    | some kvs => ∀ a, A1 a = none → P (.dic kvs) A1
    | none => okQ ((lstD A1 d).bind pairsD) fun kvs => ∀ a, A1 a = none → P (.dic (mergeA [] kvs)) A1
  | _ => False
section
variable {X : Cx} {T : Tz} {pos : Pos} {ks : List (Option Expr)} {vs : List Expr} {tr : TPQ} {e : Expr} {t : TAQ}
theorem pq_dispF (h : PPQ X T pos ks vs tr) (hall : ks.all (·.isSome) = true := by rfl) (hl : ks.length = vs.length := by rfl) (h0 : ks ≠ [] := by simp) (h15 : ks.length ≤ 15 := by decide) : PQ X T (.Dict ks vs pos) (qDispF tr) :=
  (pq_fzD (pq_disp h hall hl h0 h15)).wk fun s A P q => by
    unfold qDispF at q
    simp only [← newD_fz_eq] at q
    exact q
theorem pq_newF : PQ X T (.Dict [] [] pos) qNewF := (pq_fzD pq_newK).wk fun s A P q => by
    unfold qNewF at q
    simp only [← newD_fz_eq] at q
    exact q
theorem pq_dictF (h : PQ X T e (qCB rDictQ t)) : PQ X T e (qDictF t) := (pq_fzD h).wk fun s A P q => by
    unfold qDictF at q
    simp only [← newD_fz_eq] at q
    exact q
end
theorem at_rng {g : Nat → D} {n i : Nat} (h : i < n) : L2.atI ((List.range n).map g) (i : Int) = some (g i) := by
  rw [at_nat, List.getElem?_map, List.getElem?_range h]; rfl
theorem rng_cons {α : Type} (g : Nat → α) (n : Nat) : (List.range (n + 1)).map g = g 0 :: (List.range n).map fun j => g (j + 1) := by
  rw [List.range_succ_eq_map, List.map_cons, List.map_map]; rfl
/-- a raising call, where the way out is a letter (a lambda's body) -/
def qLX (x2 : XKQ) (r : RXQ) (t : TAQ) : TQ := fun s A P => t s A fun xs A1 => r xs A1 P x2
def qLKw (x2 : XKQ) (r : RXQ) (perm : List Nat) (t : TAQ) : TQ := fun s A P => t s A fun xs A1 => r (pick perm xs) A1 P x2
section
variable {X : Cx} {T : Tz} {k : Nat} {ar : Arguments} {ps : List Str} {rx : RXQ} {x : Str} {p pos : Pos} {e : Expr} {es : List Expr} {t : TAQ} {x2 : XKQ}
theorem pq_fnXL (G : DefX X.prog X.w X.K X.mg X.base k x ar ps rx) (hr : Room k X.A) (hx : Passes (L2.CX X.prog X.w) X T.xe) (ha : PAQ X T (e :: es) t) (h2 : T.x2 = x2 := by rfl) (hg : Gl X x := by rfl) (hdb : (x == ("__debug__" : Str)) = false := by decide)
    (he : starEach (e :: es) X.env = (false, eval e X.env) :: starEach es X.env := by rfl) (hpl : (backTo pos (starEach es X.env)).any (·.1) = false := by rfl) : PQ X T (.Call (.Name x p) (e :: es) [] pos) (qLX x2 rx t) := by
  subst h2; exact pq_fnX G hr hx ha hg hdb he hpl
theorem pq_kwXL {kws : List Keyword} {ks : List Str} {perm : List Nat} (G : DefX X.prog X.w X.K X.mg X.base k x ar ps rx) (hr : Room k X.A) (hx : Passes (L2.CX X.prog X.w) X T.xe) (hkw : PKQ X T kws t) (hko : KwOk ar ps ks perm) (h2 : T.x2 = x2 := by rfl) (hps : ps ≠ [] := by simp) (hks : (backToKw pos (keywordEach kws X.env)).filterMap (·.1) = ks := by rfl) (hg : Gl X x := by rfl)
    (hall : (backToKw pos (keywordEach kws X.env)).all (·.1.isSome) = true := by rfl) (hdb : (x == ("__debug__" : Str)) = false := by decide)
    (hpl : ((backTo pos (starEach [] X.env)).any (·.1) || (backToKw pos (keywordEach kws X.env)).any (·.1.isNone)) = false := by rfl) : PQ X T (.Call (.Name x p) [] kws pos) (qLKw x2 rx perm t) := by
  subst h2; exact pq_kwX G hr hx hkw hko hps hks hg hall hdb hpl
end
/-! ### freezing -/
theorem fzN_pl {n : Nat} {d : D} {A : MH} (h : plD d = true) : fzN n d A = some (d, A) := by
  cases n <;> cases d <;> first | rfl | cases h
theorem fzL_pl {n : Nat} {A : MH} : ∀ {xs : List D}, plDs xs = true → fzL (fzN n) xs A = some (xs, A)
  | [], _ => rfl
  | x :: xs, h => by
    rw [plDs, Bool.and_eq_true] at h
    unfold fzL
    rw [fzN_pl h.1]
    show (match fzL (fzN n) xs A with | some (r', A2) => some (x :: r', A2) | none => none) = _
    rw [fzL_pl h.2]
theorem fzN_lst {n : Nat} {a : Addr} {A : MH} {xs : List D} (h : A a = some (.lst xs)) (p : plDs xs = true) : fzN (n + 1) (.mut a) A = some (.lst xs, A.del a) := by
  show (match A a with | some (.lst ds) => (match fzL (fzN n) ds (A.del a) with | some (ds', A') => some (D.lst ds', A') | none => none) | _ => none) = _
  rw [h]
  show (match fzL (fzN n) xs (A.del a) with | some (ds', A') => some (D.lst ds', A') | none => none) = _
  rw [fzL_pl p]
theorem plDs_ints : ∀ ns : List Int, plDs (ns.map .int) = true
  | [] => rfl
  | _ :: ns => by rw [List.map_cons, plDs, plDs_ints ns]; rfl
theorem plDs_app {xs ys : List D} (h : plDs xs = true) (g : plDs ys = true) : plDs (xs ++ ys) = true :=
  plDs_all.mpr fun x hx => (List.mem_append.mp hx).elim (plDs_all.mp h x) (plDs_all.mp g x)
/-! rows that may change, frozen at once -/
def RowsAt (A : MH) : List Addr → List (List D) → Prop
  | [], [] => True
  | a :: as, r :: rs => A a = some (.lst r) ∧ RowsAt A as rs
  | _, _ => False
theorem RowsAt.len {A : MH} : ∀ {as : List Addr} {rs : List (List D)}, RowsAt A as rs → as.length = rs.length
  | [], [], _ => rfl
  | _ :: as, _ :: rs, h => by rw [List.length_cons, List.length_cons, RowsAt.len h.2]
  | [], _ :: _, h => h.elim
  | _ :: _, [], h => h.elim
theorem RowsAt.off {A A' : MH} : ∀ {as : List Addr} {rs : List (List D)}, RowsAt A as rs → (∀ a ∈ as, A' a = A a) → RowsAt A' as rs
  | [], [], _, _ => trivial
  | a :: as, _ :: rs, h, e => ⟨(e a (List.mem_cons_self ..)).trans h.1, RowsAt.off h.2 fun b hb => e b (List.mem_cons_of_mem _ hb)⟩
  | [], _ :: _, h, _ => h.elim
  | _ :: _, [], h, _ => h.elim
theorem RowsAt.get {A : MH} : ∀ {as : List Addr} {rs : List (List D)} {i : Nat} {a : Addr}, RowsAt A as rs → as[i]? = some a → ∃ r, rs[i]? = some r ∧ A a = some (.lst r)
  | [], [], _, _, _, e => by simp at e
  | b :: as, r :: rs, 0, a, h, e => by simp at e; subst e; exact ⟨r, rfl, h.1⟩
  | b :: as, r :: rs, i + 1, a, h, e => by
    obtain ⟨q, h1, h2⟩ := RowsAt.get (i := i) (a := a) h.2 (by simpa using e)
    exact ⟨q, by simpa using h1, h2⟩
  | [], _ :: _, _, _, h, _ => h.elim
  | _ :: _, [], _, _, h, _ => h.elim
theorem RowsAt.set {A : MH} : ∀ {as : List Addr} {rs : List (List D)} {i : Nat} {a : Addr} {r : List D}, RowsAt A as rs → as.Nodup → as[i]? = some a → RowsAt (A.set a (.lst r)) as (rs.set i r)
  | [], [], _, _, _, _, _, e => by simp at e
  | b :: as, q :: rs, 0, a, r, h, nd, e => by
    simp at e; subst e
    refine ⟨MH.set_same, h.2.off fun c hc => MH.set_ne fun z => ?_⟩
    subst z
    exact (List.nodup_cons.mp nd).1 hc
  | b :: as, q :: rs, i + 1, a, r, h, nd, e => by
    have e2 : as[i]? = some a := by simpa using e
    refine ⟨?_, RowsAt.set h.2 (List.nodup_cons.mp nd).2 e2⟩
    rw [MH.set_ne fun z => (List.nodup_cons.mp nd).1 (by rw [z]; exact List.mem_of_getElem? e2)]
    exact h.1
  | [], _ :: _, _, _, _, h, _, _ => h.elim
  | _ :: _, [], _, _, _, h, _, _ => h.elim
def delA (A : MH) : List Addr → MH
  | [] => A
  | a :: as => delA (A.del a) as
theorem delA_off {b : Addr} : ∀ {as : List Addr} {A : MH}, b ∉ as → delA A as b = A b
  | [], _, _ => rfl
  | a :: as, A, h => by
    show delA (A.del a) as b = _
    rw [delA_off fun z => h (List.mem_cons_of_mem _ z), MH.del_ne fun z => h (by rw [z]; exact List.mem_cons_self ..)]
theorem fzL_rows {n : Nat} : ∀ {as : List Addr} {A : MH} {rs : List (List D)}, RowsAt A as rs → as.Nodup → (∀ r ∈ rs, plDs r = true) → fzL (fzN (n + 1)) (as.map .mut) A = some (rs.map .lst, delA A as)
  | [], _, [], _, _, _ => rfl
  | a :: as, A, r :: rs, h, nd, p => by
    rw [List.map_cons]
    unfold fzL
    rw [fzN_lst h.1 (p r (List.mem_cons_self ..))]
    show (match fzL (fzN (n + 1)) (as.map .mut) (A.del a) with | some (r', A2) => some (D.lst r :: r', A2) | none => none) = _
    rw [fzL_rows (A := A.del a) (h.2.off fun b hb => MH.del_ne fun z => (List.nodup_cons.mp nd).1 (z ▸ hb)) (List.nodup_cons.mp nd).2 fun q hq => p q (List.mem_cons_of_mem _ hq)]
    rfl
  | [], _, _ :: _, h, _, _ => h.elim
  | _ :: _, _, [], h, _, _ => h.elim
theorem fzN_rows {n : Nat} {t : Addr} {as : List Addr} {A : MH} {rs : List (List D)} (ht : A t = some (.lst (as.map .mut))) (h : RowsAt A as rs) (nd : (t :: as).Nodup) (p : ∀ r ∈ rs, plDs r = true) : fzN (n + 2) (.mut t) A = some (.lst (rs.map .lst), delA A (t :: as)) := by
  show (match A t with | some (.lst ds) => (match fzL (fzN (n + 1)) ds (A.del t) with | some (ds', A') => some (D.lst ds', A') | none => none) | _ => none) = _
  rw [ht]
  have nd' := List.nodup_cons.mp nd
  show (match fzL (fzN (n + 1)) (as.map .mut) (A.del t) with | some (ds', A') => some (D.lst ds', A') | none => none) = _
  rw [fzL_rows (h.off fun b hb => MH.del_ne fun z => nd'.1 (by rw [← z]; exact hb)) nd'.2 p]
  rfl
theorem fz_row {A : MH} {p r : Addr} {xs : List D} (h : p ≠ r) (pl : plDs xs = true) (hB : A r = some (.lst xs)) : fzN 2 (.mut p) (A.set p (.lst [.mut r])) = some (.lst [.lst xs], ((A.set p (.lst [.mut r])).del p).del r) := by
  have := fzN_rows (n := 0) (t := p) (as := [r]) (A := A.set p (.lst [.mut r])) (rs := [xs]) MH.set_same ⟨by rw [MH.set_ne (Ne.symm h)]; exact hB, trivial⟩ (List.nodup_cons.mpr ⟨fun z => h (List.mem_singleton.mp z), List.nodup_cons.mpr ⟨List.not_mem_nil, List.nodup_nil⟩⟩) fun q hq => by
    rw [List.mem_singleton] at hq; rw [hq]; exact pl
  exact this
/-- new rows that may change -/
structure NewR (A A' : MH) (t : Addr) (as : List Addr) (rows : List (List D)) : Prop where
  nt : A t = none
  na : ∀ a ∈ as, A a = none
  nd : (t :: as).Nodup
  top : A' t = some (.lst (as.map .mut))
  rows : RowsAt A' as rows
  off : ∀ q, q ≠ t → q ∉ as → A' q = A q
theorem compL_rows {γ : Type} {t : Tgt} {te : TQ} {s : SQ} {A : MH} {P : List D → MH → Prop} (k : γ → D) (g : γ → List D) (ys : List γ) (hl : ys.length ≤ 100000)
    (h : ∀ y ∈ ys, ∀ A', (∀ q o, A q = some o → A' q = some o) → ∀ Q : KQ, (∀ a, A' a = none → Q (.mut a) (A'.set a (.lst (g y)))) → okQ (tset t (k y) s) fun s' => te s' A' Q)
    (fin : ∀ as A', as.Nodup → (∀ a ∈ as, A a = none) → RowsAt A' as (ys.map g) → (∀ q, q ∉ as → A' q = A q) → P (as.map .mut) A') : compL t qYes te s (ys.map k) [] A P := by
  have go : ∀ (zs ws : List γ) (as : List Addr) (A' : MH), ws ++ zs = ys → as.Nodup → (∀ a ∈ as, A a = none) → RowsAt A' as (ws.map g) → (∀ q, q ∉ as → A' q = A q) → compL t qYes te s (zs.map k) (as.map .mut) A' P := by
    intro zs
    induction zs with
    | nil =>
      intro ws as A' e nd na ra off
      rw [List.append_nil] at e; subst e
      unfold compL; exact fin as A' nd na ra off
    | cons z zs ih =>
      intro ws as A' e nd na ra off
      have hz : z ∈ ys := by rw [← e]; exact List.mem_append_right _ (List.mem_cons_self ..)
      have hlen := ra.len
      rw [List.length_map] at hlen
      have hl2 := congrArg List.length e
      rw [List.length_append, List.length_cons] at hl2
      have ex : ∀ q o, A q = some o → A' q = some o := fun q o hq => by
        rw [off q fun z => by rw [na q z] at hq; cases hq]; exact hq
      have h1 := h z hz A' ex (fun v A2 => (as.map D.mut).length < 100000 ∧ compL t qYes te s (zs.map k) (as.map D.mut ++ [v]) A2 P) fun a ha => ⟨by rw [List.length_map]; omega, by
        have hna : a ∉ as := fun z => by
          obtain ⟨i, hi⟩ := List.getElem?_of_mem z
          obtain ⟨r, _, hr⟩ := ra.get hi
          rw [ha] at hr; cases hr
        have e2 : as.map D.mut ++ [D.mut a] = (as ++ [a]).map D.mut := by rw [List.map_append]; rfl
        rw [e2]
        refine ih (ws ++ [z]) (as ++ [a]) _ (by rw [List.append_assoc]; exact e) (List.nodup_append.mpr ⟨nd, List.nodup_cons.mpr ⟨List.not_mem_nil, List.nodup_nil⟩, fun x hx y hy => by rw [List.mem_singleton] at hy; subst hy; exact fun z => hna (z ▸ hx)⟩) (fun b hb => ?_) ?_ fun q hq => ?_
        · rcases List.mem_append.mp hb with hb | hb
          · exact na b hb
          · rw [List.mem_singleton] at hb; subst hb; rw [← off b hna]; exact ha
        · have app : ∀ {as : List Addr} {rs : List (List D)} {B : MH} {a : Addr} {r : List D}, RowsAt B as rs → B a = some (.lst r) → RowsAt B (as ++ [a]) (rs ++ [r]) := by
            intro as
            induction as with
            | nil => intro rs B a r h hb; cases rs with | nil => exact ⟨hb, trivial⟩ | cons => exact h.elim
            | cons c as ih2 => intro rs B a r h hb; cases rs with | nil => exact h.elim | cons q rs => exact ⟨h.1, ih2 h.2 hb⟩
          rw [List.map_append]
          exact app (ra.off fun b hb => MH.set_ne fun z => hna (by rw [← z]; exact hb)) MH.set_same
        · rw [List.mem_append, List.mem_singleton] at hq
          rw [MH.set_ne fun z => hq (.inr z)]
          exact off q fun z => hq (.inl z)⟩
      rw [List.map_cons]
      unfold compL
      cases e3 : tset t (k z) s with
      | none => rw [e3] at h1; exact h1.elim
      | some s' => rw [e3] at h1; exact h1
  exact go ys [] [] A rfl List.nodup_nil (fun a h => absurd h List.not_mem_nil) trivial fun q _ => rfl
/-- new rows within a new list -/
theorem newR_of {A A' : MH} {as : List Addr} {rows : List (List D)} {P : KQ} (nd : as.Nodup) (na : ∀ a ∈ as, A a = none) (ra : RowsAt A' as rows) (off : ∀ q, q ∉ as → A' q = A q) (h : ∀ t B, NewR A B t as rows → P (.mut t) B) : newL true (as.map .mut) A' P := by
  intro t ht
  have hna : t ∉ as := fun z => by
    obtain ⟨i, hi⟩ := List.getElem?_of_mem z
    obtain ⟨r, _, hr⟩ := ra.get hi
    rw [ht] at hr; cases hr
  exact h t _ ⟨by rw [← off t hna]; exact ht, na, List.nodup_cons.mpr ⟨hna, nd⟩, MH.set_same, ra.off fun b hb => MH.set_ne fun z => hna (by rw [← z]; exact hb), fun q h1 h2 => by rw [MH.set_ne h1]; exact off q h2⟩
/-! lent -/
theorem viewN_pl : ∀ {n : Nat} {A : MH} {d : D}, flD d = true → viewN n A d = some d
  | 0, _, d, _ => by cases d <;> rfl
  | n + 1, A, d, h => by cases d <;> first | rfl | cases h
theorem viewL_all {f : D → Option D} : ∀ {xs : List D}, (∀ x ∈ xs, f x = some x) → viewL f xs = some xs
  | [], _ => rfl
  | x :: xs, h => by
    unfold viewL
    rw [h x (List.mem_cons_self ..), viewL_all fun y hy => h y (List.mem_cons_of_mem _ hy)]
theorem viewN_plain : ∀ (n : Nat) (A : MH) {d : D}, plD d = true → viewN n A d = some d
  | 0, A, d, _ => by cases d <;> rfl
  | n + 1, A, d, h => by
    cases d with
    | lst xs =>
      rw [plD, Bool.and_eq_true] at h
      show (viewL (viewN n A) xs).map D.lst = _
      rw [viewL_all fun x hx => viewN_plain n A (plDs_all.mp h.2 x hx)]; rfl
    | tup xs =>
      rw [plD, Bool.and_eq_true] at h
      show (viewL (viewN n A) xs).map D.tup = _
      rw [viewL_all fun x hx => viewN_plain n A (plDs_all.mp h.2 x hx)]; rfl
    | «mut» => cases h
    | _ => rfl
theorem pick_0 {α : Type} {x : α} : pick [0] [x] = [x] := rfl
theorem pick_10 {α : Type} {x y : α} : pick [1, 0] [x, y] = [y, x] := rfl
theorem viewL_mut {n : Nat} {A : MH} : ∀ {as : List Addr} {rs : List (List D)}, RowsAt A as rs → (∀ r ∈ rs, viewL (viewN n A) r = some r) → viewL (viewN (n + 1) A) (as.map .mut) = some (rs.map .lst)
  | [], [], _, _ => rfl
  | a :: as, r :: rs, h, p => by
    rw [List.map_cons]
    unfold viewL
    have e : viewN (n + 1) A (.mut a) = some (.lst r) := by
      show (match A a with | some (.lst ds) => (viewL (viewN n A) ds).map D.lst | _ => none) = _
      rw [h.1]
      show (viewL (viewN n A) r).map D.lst = _
      rw [p r (List.mem_cons_self ..)]; rfl
    rw [e, viewL_mut h.2 fun q hq => p q (List.mem_cons_of_mem _ hq)]
    rfl
  | [], _ :: _, h, _ => h.elim
  | _ :: _, [], h, _ => h.elim
/-! ### plain data with small ints, empty dicts alone -/
mutual
def datD : D → Bool
  | .non => true | .bl _ => true | .str _ => true
  | .int i => decide (-1000000000 < i) && decide (i < 1000000000)
  | .tup xs => datDs xs
  | .lst xs => datDs xs
  | .dic kvs => kvs.isEmpty
  | _ => false
def datDs : List D → Bool
  | [] => true
  | x :: xs => datD x && datDs xs
end
theorem datDs_all {xs : List D} : datDs xs = true ↔ ∀ x ∈ xs, datD x = true := by
  induction xs with
  | nil => exact ⟨fun _ x h => (by cases h), fun _ => rfl⟩
  | cons a r ih =>
    rw [datDs, Bool.and_eq_true, ih]
    constructor
    · rintro ⟨h1, h2⟩ x hx
      exact (List.mem_cons.mp hx).elim (fun e => e ▸ h1) (h2 x)
    · exact fun h => ⟨h a (List.mem_cons_self ..), fun x hx => h x (List.mem_cons_of_mem _ hx)⟩
mutual
/-- how many parts -/
def nod : D → Nat
  | .tup xs => nods xs + 1
  | .lst xs => nods xs + 1
  | _ => 1
def nods : List D → Nat
  | [] => 0
  | x :: xs => nod x + nods xs
end
theorem nod_pos (d : D) : 0 < nod d := by cases d <;> simp [nod]
theorem nods_len : ∀ xs : List D, xs.length ≤ nods xs
  | [] => Nat.le_refl _
  | x :: xs => by
    have := nods_len xs
    have := nod_pos x
    rw [nods, List.length_cons]; omega
theorem nods_app : ∀ xs ys : List D, nods (xs ++ ys) = nods xs + nods ys
  | [], ys => by rw [List.nil_append, nods, Nat.zero_add]
  | x :: xs, ys => by rw [List.cons_append, nods, nods, nods_app xs ys, Nat.add_assoc]
theorem nods_mem {xs : List D} {x : D} (h : x ∈ xs) : nod x ≤ nods xs := by
  induction xs with
  | nil => cases h
  | cons a r ih =>
    rw [nods]
    rcases List.mem_cons.mp h with e | e
    · rw [e]; omega
    · have := ih e; omega
theorem nods_split (xs : List D) (i : Nat) (h : i < xs.length) : nods xs = nods (xs.take i) + nod xs[i] + nods (xs.drop (i + 1)) := by
  have e : xs = xs.take i ++ xs[i] :: xs.drop (i + 1) := by rw [List.getElem_cons_drop, List.take_append_drop]
  have := congrArg nods e
  rw [nods_app, nods] at this
  omega
theorem nods_take {xs : List D} {i : Nat} {x : D} (h : xs[i]? = some x) : nods (xs.take (i + 1)) = nods (xs.take i) + nod x := by
  rw [List.take_succ, h, nods_app]; rfl
theorem nods_takele (xs : List D) (i : Nat) : nods (xs.take i) ≤ nods xs := by
  have := congrArg nods (List.take_append_drop i xs)
  rw [nods_app] at this; omega
theorem nods_perm {xs ys : List D} (h : xs.Perm ys) : nods xs = nods ys := by
  induction h with
  | nil => rfl
  | cons x _ ih => rw [nods, nods, ih]
  | swap x y l => rw [nods, nods, nods, nods]; omega
  | trans _ _ a b => exact a.trans b
mutual
theorem datD_pl : ∀ {d : D}, datD d = true → nod d ≤ 100000 → plD d = true
  | .non, _, _ => rfl
  | .bl _, _, _ => rfl
  | .int _, _, _ => rfl
  | .str _, _, _ => rfl
  | .tup xs, h, n => by
    rw [nod] at n
    rw [plD, Bool.and_eq_true]
    exact ⟨decide_eq_true (by have := nods_len xs; omega), datDs_pl h (by omega)⟩
  | .lst xs, h, n => by
    rw [nod] at n
    rw [plD, Bool.and_eq_true]
    exact ⟨decide_eq_true (by have := nods_len xs; omega), datDs_pl h (by omega)⟩
  | .dic [], _, _ => rfl
  | .dic (_ :: _), h, _ => by cases h
  | .ty _, h, _ => by cases h
  | .gdc _, h, _ => by cases h
  | .mut _, h, _ => by cases h
  | .fn _, h, _ => by cases h
  | .lam _, h, _ => by cases h
  | .frl _, h, _ => by cases h
theorem datDs_pl : ∀ {xs : List D}, datDs xs = true → nods xs ≤ 100000 → plDs xs = true
  | [], _, _ => rfl
  | x :: xs, h, n => by
    rw [datDs, Bool.and_eq_true] at h
    rw [nods] at n
    rw [plDs, datD_pl h.1 (by omega), datDs_pl h.2 (by omega)]; rfl
end
theorem deps_app : ∀ xs ys : List D, deps (xs ++ ys) = max (deps xs) (deps ys)
  | [], ys => by rw [List.nil_append, deps, Nat.zero_max]
  | x :: xs, ys => by rw [List.cons_append, deps, deps, deps_app xs ys, Nat.max_assoc]
theorem datDs_app {xs ys : List D} (h : datDs xs = true) (g : datDs ys = true) : datDs (xs ++ ys) = true :=
  datDs_all.mpr fun x hx => (List.mem_append.mp hx).elim (datDs_all.mp h x) (datDs_all.mp g x)
theorem datDs_sub {xs ys : List D} (h : datDs xs = true) (g : ∀ y ∈ ys, y ∈ xs) : datDs ys = true := datDs_all.mpr fun y hy => datDs_all.mp h y (g y hy)
theorem deps_lt {xs : List D} {n : Nat} (h : ∀ x ∈ xs, dep x ≤ n) : deps xs ≤ n := by
  induction xs with
  | nil => exact Nat.zero_le _
  | cons a r ih =>
    rw [deps]
    exact Nat.max_le.mpr ⟨h a (List.mem_cons_self ..), ih fun x hx => h x (List.mem_cons_of_mem _ hx)⟩
/-! the same but for lists in the place of tuples, at each depth -/
mutual
inductive Loo : D → D → Prop
  | same (d : D) : Loo d d
  | seq {d e : D} {xs ys : List D} : seqF d = some xs → seqF e = some ys → Loos xs ys → Loo d e
inductive Loos : List D → List D → Prop
  | nil : Loos [] []
  | cons {x y : D} {xs ys : List D} : Loo x y → Loos xs ys → Loos (x :: xs) (y :: ys)
end
theorem Loos.length : ∀ {xs ys : List D}, Loos xs ys → xs.length = ys.length
  | _, _, .nil => rfl
  | _, _, .cons _ r => by rw [List.length_cons, List.length_cons, r.length]
theorem Loos.get : ∀ {xs ys : List D} {i : Nat} {x : D}, Loos xs ys → xs[i]? = some x → ∃ y, ys[i]? = some y ∧ Loo x y
  | _, _, _, _, .nil, e => by simp at e
  | _, _, 0, _, .cons r _, e => by simp at e; subst e; exact ⟨_, rfl, r⟩
  | _, _, i + 1, x, .cons _ t, e => by
    obtain ⟨v, h1, h2⟩ := Loos.get (i := i) (x := x) t (by simpa using e)
    exact ⟨v, by simpa using h1, h2⟩
theorem Loos.of : ∀ {xs ys : List D}, xs.length = ys.length → (∀ (i : Nat) (x y : D), xs[i]? = some x → ys[i]? = some y → Loo x y) → Loos xs ys
  | [], [], _, _ => .nil
  | x :: xs, y :: ys, hl, h => .cons (h 0 x y rfl rfl) (Loos.of (by simpa using hl) fun i a b h1 h2 => h (i + 1) a b (by simpa using h1) (by simpa using h2))
  | [], _ :: _, h, _ => by simp at h
  | _ :: _, [], h, _ => by simp at h
mutual
theorem Loo.symm : ∀ {d e : D}, Loo d e → Loo e d
  | _, _, .same d => .same d
  | _, _, .seq h1 h2 r => .seq h2 h1 (Loos.symm r)
theorem Loos.symm : ∀ {xs ys : List D}, Loos xs ys → Loos ys xs
  | _, _, .nil => .nil
  | _, _, .cons r t => .cons (Loo.symm r) (Loos.symm t)
end
theorem datD_seq {d : D} {xs : List D} (h : seqF d = some xs) : datD d = datDs xs ∧ nod d = nods xs + 1 ∧ dep d = deps xs + 1 := by
  cases d <;> first | (cases h; done) | (cases h; exact ⟨rfl, rfl, rfl⟩)
mutual
theorem Loo.dat : ∀ {d e : D}, Loo d e → datD d = datD e ∧ nod d = nod e ∧ dep d = dep e
  | _, _, .same d => ⟨rfl, rfl, rfl⟩
  | _, _, .seq h1 h2 r => by
    have a := datD_seq h1
    have b := datD_seq h2
    have c := Loos.dat r
    exact ⟨by rw [a.1, b.1, c.1], by rw [a.2.1, b.2.1, c.2.1], by rw [a.2.2, b.2.2, c.2.2]⟩
theorem Loos.dat : ∀ {xs ys : List D}, Loos xs ys → datDs xs = datDs ys ∧ nods xs = nods ys ∧ deps xs = deps ys
  | _, _, .nil => ⟨rfl, rfl, rfl⟩
  | _, _, .cons r t => by
    have a := Loo.dat r
    have b := Loos.dat t
    exact ⟨by rw [datDs, datDs, a.1, b.1], by rw [nods, nods, a.2.1, b.2.1], by rw [deps, deps, a.2.2, b.2.2]⟩
end
/-- a seq of loose parts is loose -/
theorem Loo.seqF {d e : D} (h : Loo d e) : ∀ {xs : List D}, seqF d = some xs → ∃ ys, Qd.seqF e = some ys ∧ Loos xs ys := by
  intro xs hx
  cases h with
  | same => exact ⟨xs, hx, Loos.of rfl fun i x y h1 h2 => by rw [h1] at h2; cases h2; exact .same _⟩
  | seq h1 h2 r => rw [h1] at hx; cases hx; exact ⟨_, h2, r⟩
theorem Loo.noseq {d e : D} (h : Loo d e) (hx : Qd.seqF d = none) : e = d := by
  cases h with
  | same => rfl
  | seq h1 _ _ => rw [h1] at hx; cases hx
end Qd


set_option Elab.async false
set_option linter.all false
set_option maxRecDepth 100000
set_option maxHeartbeats 4000000
/-! Second layer, part Y: dicts as keys and a function; their keys sorted. -/
namespace Qd
open PySem L2
def tabK (ks : List Key) (v : Key → D) : List (Key × D) := ks.map fun k => (k, v k)
theorem tabK_length {ks : List Key} {v : Key → D} : (tabK ks v).length = ks.length := List.length_map ..
theorem tabK_keys {ks : List Key} {v : Key → D} : (tabK ks v).map (·.1) = ks := by
  unfold tabK; rw [List.map_map]; exact List.map_id _
theorem getA_tabK {ks : List Key} {v : Key → D} {k : Key} (h : k ∈ ks) : getA (tabK ks v) k = some (v k) := by
  induction ks with
  | nil => cases h
  | cons a r ih =>
    show getA ((a, v a) :: tabK r v) k = _
    rw [getA_cons]
    by_cases e : a = k
    · subst e; rw [if_pos rfl]
    · rw [if_neg e]
      exact ih ((List.mem_cons.mp h).resolve_left fun z => e z.symm)
theorem hasA_tabK {ks : List Key} {v : Key → D} {k : Key} : hasA (tabK ks v) k = true ↔ k ∈ ks := by
  induction ks with
  | nil => exact ⟨fun h => (by cases h), fun h => (by cases h)⟩
  | cons a r ih =>
    show (decide (a = k) || hasA (tabK r v) k) = true ↔ _
    rw [Bool.or_eq_true, ih, decide_eq_true_eq, List.mem_cons]
    exact or_congr ⟨Eq.symm, Eq.symm⟩ Iff.rfl
theorem mergeA_app {κ : Type} [DecidableEq κ] {α : Type} : ∀ (ps acc : List (κ × α)), (ps.map (·.1)).Nodup → (∀ p ∈ ps, hasA acc p.1 = false) → mergeA acc ps = acc ++ ps
  | [], acc, _, _ => by rw [List.append_nil]; rfl
  | p :: ps, acc, nd, h => by
    rw [List.map_cons, List.nodup_cons] at nd
    have e : putA acc p.1 p.2 = acc ++ [p] := by
      unfold putA
      rw [h p (List.mem_cons_self ..)]; rfl
    show mergeA (putA acc p.1 p.2) ps = _
    rw [e, mergeA_app ps (acc ++ [p]) nd.2 fun q hq => ?_, List.append_assoc]; rfl
    unfold hasA
    rw [List.any_append]
    have h1 : hasA acc q.1 = false := h q (List.mem_cons_of_mem _ hq)
    unfold hasA at h1
    rw [h1, Bool.false_or]
    simp only [List.any_cons, List.any_nil, Bool.or_false]
    exact decide_eq_false fun z => nd.1 (z ▸ List.mem_map.mpr ⟨q, hq, rfl⟩)
theorem mergeA_nodup {κ : Type} [DecidableEq κ] {α : Type} {ps : List (κ × α)} (nd : (ps.map (·.1)).Nodup) : mergeA [] ps = ps := by
  rw [mergeA_app ps [] nd fun _ _ => rfl, List.nil_append]
theorem mergeA_tabK {ks : List Key} {v : Key → D} (nd : ks.Nodup) : mergeA [] (tabK ks v) = tabK ks v := mergeA_nodup (by rw [tabK_keys]; exact nd)
theorem keyInts_tab {v : Key → D} : ∀ is : List Int, keyInts (tabK (is.map .inl) v) = some is
  | [] => rfl
  | i :: is => by
    show (keyInts (tabK (is.map .inl) v)).map (i :: ·) = _
    rw [keyInts_tab is]; rfl
theorem keyStrs_tab {v : Key → D} : ∀ is : List Str, keyStrs (tabK (is.map .inr) v) = some is
  | [] => rfl
  | i :: is => by
    show (keyStrs (tabK (is.map .inr) v)).map (i :: ·) = _
    rw [keyStrs_tab is]; rfl
/-- keys of one sort -/
def OneSort (ks : List Key) : Prop := (∃ is : List Int, ks = is.map .inl) ∨ ∃ ss : List Str, ks = ss.map .inr
def srtK (ks : List Key) : List Key := (sortKeys (tabK ks fun _ => .non)).getD []
theorem sort_ints {v : Key → D} (is : List Int) : sortKeys (tabK (is.map .inl) v) = some ((srtI is).map .inl) := by
  unfold sortKeys; rw [keyInts_tab]
theorem sort_strs {v : Key → D} {ss : List Str} (h : ss ≠ []) : sortKeys (tabK (ss.map .inr) v) = some ((srtS ss).map .inr) := by
  unfold sortKeys
  cases ss with
  | nil => exact absurd rfl h
  | cons s r =>
    have e : keyInts (tabK ((s :: r).map .inr) v) = none := rfl
    rw [e, keyStrs_tab]; rfl
theorem sort_tab {v : Key → D} {ks : List Key} (h : OneSort ks) (h0 : ks ≠ []) : sortKeys (tabK ks v) = some (srtK ks) := by
  rcases h with ⟨is, rfl⟩ | ⟨ss, rfl⟩
  · unfold srtK; rw [sort_ints, sort_ints]; rfl
  · have : ss ≠ [] := fun z => h0 (by rw [z]; rfl)
    unfold srtK; rw [sort_strs this, sort_strs this]; rfl
theorem srtI_perm (l : List Int) : (srtI l).Perm l := List.mergeSort_perm _ _
theorem srtS_perm (l : List Str) : (srtS l).Perm l := List.mergeSort_perm _ _
theorem srtI_sorted (l : List Int) : (srtI l).Pairwise (· ≤ ·) := by
  have := List.pairwise_mergeSort (le := fun a b : Int => decide (a ≤ b)) (fun a b c x y => by simp at *; omega) (fun a b => by simp; omega) l
  exact this.imp fun h => by simpa using h
theorem srtS_sorted (l : List Str) : (srtS l).Pairwise (fun a b => leS a b = true) := List.pairwise_mergeSort leS_trans leS_total l
theorem srtI_congr {l l' : List Int} (h : l.Perm l') : srtI l = srtI l' := srtI_uniq ((srtI_perm l).trans h) (srtI_sorted l)
theorem srtS_congr {l l' : List Str} (h : l.Perm l') : srtS l = srtS l' :=
  List.Perm.eq_of_pairwise (le := fun a b => leS a b = true) (fun a b _ _ x y => leS_anti x y) (srtS_sorted l) (srtS_sorted l') ((srtS_perm l).trans (h.trans (srtS_perm l').symm))
theorem srtK_perm {ks : List Key} (h : OneSort ks) : (srtK ks).Perm ks := by
  by_cases h0 : ks = []
  · subst h0
    show ((sortKeys (tabK (([] : List Int).map .inl) fun _ => .non)).getD []).Perm (([] : List Int).map .inl)
    rw [sort_ints]; exact (srtI_perm []).map _
  rcases h with ⟨is, rfl⟩ | ⟨ss, rfl⟩
  · unfold srtK; rw [sort_ints]; exact (srtI_perm is).map _
  · unfold srtK; rw [sort_strs (fun z => h0 (by rw [z]; rfl))]; exact (srtS_perm ss).map _
theorem perm_map_inl {is : List Int} {ks : List Key} (h : ks.Perm (is.map .inl)) : ∃ js : List Int, ks = js.map .inl ∧ js.Perm is := by
  have hk : ∀ k ∈ ks, ∃ i : Int, k = .inl i := fun k hk => by
    obtain ⟨i, _, e⟩ := List.mem_map.mp (h.mem_iff.mp hk)
    exact ⟨i, e.symm⟩
  let f : Key → Int := fun k => match k with | .inl i => i | .inr _ => 0
  refine ⟨ks.map f, ?_, ?_⟩
  · rw [List.map_map]
    have : ∀ l : List Key, (∀ k ∈ l, ∃ i : Int, k = .inl i) → l = l.map (Sum.inl ∘ f) := fun l hl => by
      induction l with
      | nil => rfl
      | cons a r ih =>
        obtain ⟨i, rfl⟩ := hl a (List.mem_cons_self ..)
        rw [List.map_cons, ← ih fun k hk => hl k (List.mem_cons_of_mem _ hk)]; rfl
    exact this ks hk
  · have := h.map f
    rw [List.map_map] at this
    rwa [show is.map (f ∘ Sum.inl) = is from List.map_id _] at this
theorem perm_map_inr {is : List Str} {ks : List Key} (h : ks.Perm (is.map .inr)) : ∃ js : List Str, ks = js.map .inr ∧ js.Perm is := by
  have hk : ∀ k ∈ ks, ∃ i : Str, k = .inr i := fun k hk => by
    obtain ⟨i, _, e⟩ := List.mem_map.mp (h.mem_iff.mp hk)
    exact ⟨i, e.symm⟩
  let f : Key → Str := fun k => match k with | .inr i => i | .inl _ => ⟨#[]⟩
  refine ⟨ks.map f, ?_, ?_⟩
  · rw [List.map_map]
    have : ∀ l : List Key, (∀ k ∈ l, ∃ i : Str, k = .inr i) → l = l.map (Sum.inr ∘ f) := fun l hl => by
      induction l with
      | nil => rfl
      | cons a r ih =>
        obtain ⟨i, rfl⟩ := hl a (List.mem_cons_self ..)
        rw [List.map_cons, ← ih fun k hk => hl k (List.mem_cons_of_mem _ hk)]; rfl
    exact this ks hk
  · have := h.map f
    rw [List.map_map] at this
    rwa [show is.map (f ∘ Sum.inr) = is from List.map_id _] at this
theorem OneSort.perm {ks ls : List Key} (h : OneSort ks) (p : ls.Perm ks) : OneSort ls := by
  rcases h with ⟨is, rfl⟩ | ⟨ss, rfl⟩
  · obtain ⟨js, rfl, _⟩ := perm_map_inl p; exact .inl ⟨js, rfl⟩
  · obtain ⟨js, rfl, _⟩ := perm_map_inr p; exact .inr ⟨js, rfl⟩
theorem srtK_congr {ks ls : List Key} (h : OneSort ks) (p : ls.Perm ks) : srtK ls = srtK ks := by
  by_cases h0 : ks = []
  · subst h0; rw [List.perm_nil.mp p]
  rcases h with ⟨is, rfl⟩ | ⟨ss, rfl⟩
  · obtain ⟨js, rfl, q⟩ := perm_map_inl p
    unfold srtK; rw [sort_ints, sort_ints, srtI_congr q]
  · obtain ⟨js, rfl, q⟩ := perm_map_inr p
    have n1 : ss ≠ [] := fun z => h0 (by rw [z]; rfl)
    have n2 : js ≠ [] := fun z => n1 (by subst z; exact List.nil_perm.mp q)
    unfold srtK; rw [sort_strs n1, sort_strs n2, srtS_congr q]
theorem ints_of {out : List D} {R : Nat → Int → Prop} (h : ∀ i y, out[i]? = some y → ∃ z : Int, y = .int z ∧ R i z) : ∃ is : List Int, out = is.map .int ∧ ∀ (i : Nat) z, is[i]? = some z → R i z := by
  let f : D → Int := fun d => match d with | .int i => i | _ => 0
  refine ⟨out.map f, List.ext_getElem? fun i => ?_, fun i z hz => ?_⟩
  · rw [List.getElem?_map, List.getElem?_map]
    cases e : out[i]? with
    | none => rfl
    | some y =>
      obtain ⟨z, rfl, _⟩ := h i y e
      rfl
  · rw [List.getElem?_map] at hz
    cases e : out[i]? with
    | none => rw [e] at hz; cases hz
    | some y =>
      obtain ⟨w, rfl, r⟩ := h i y e
      rw [e] at hz; cases hz
      exact r
theorem nodup_map {α β : Type} {f : α → β} (hf : ∀ a b, f a = f b → a = b) : ∀ {l : List α}, l.Nodup → (l.map f).Nodup
  | [], _ => List.nodup_nil
  | a :: l, h => by
    rw [List.nodup_cons] at h
    rw [List.map_cons, List.nodup_cons]
    refine ⟨fun z => ?_, nodup_map hf h.2⟩
    obtain ⟨b, hb, e⟩ := List.mem_map.mp z
    exact h.1 (hf _ _ e ▸ hb)
theorem nodup_get {α : Type} {l : List α} (h : ∀ (i j : Nat) x, i < j → l[i]? = some x → l[j]? = some x → False) : l.Nodup := by
  induction l with
  | nil => exact List.nodup_nil
  | cons a l ih =>
    rw [List.nodup_cons]
    refine ⟨fun z => ?_, ih fun i j x hij h1 h2 => h (i + 1) (j + 1) x (by omega) (by simpa using h1) (by simpa using h2)⟩
    obtain ⟨i, hi⟩ := List.getElem?_of_mem z
    exact h 0 (i + 1) a (by omega) rfl (by simpa using hi)
theorem pairsD_tab {v : Key → D} : ∀ ks : List Key, pairsD (ks.map fun k => .tup [kD k, v k]) = some (tabK ks v)
  | [] => rfl
  | k :: ks => by
    rw [List.map_cons]
    unfold pairsD
    rw [pairsD_tab ks]
    show (match (keyD (kD k)).map (fun k' => (k', v k)), some (tabK ks v) with | some p, some ps => some (p :: ps) | _, _ => none) = _
    rw [keyD_k]
    rfl
theorem pairsD_zip : ∀ {ks : List Key} {ns : List D}, pairsD (pairL (ks.map kD) ns) = some (ks.zip ns)
  | [], _ => rfl
  | _ :: _, [] => rfl
  | k :: ks, n :: ns => by
    show (match pairD (.tup [kD k, n]), pairsD (pairL (ks.map kD) ns) with | some p, some ps => some (p :: ps) | _, _ => none) = _
    rw [pairsD_zip]
    show (match (keyD (kD k)).map (fun k' => (k', n)), some (ks.zip ns) with | some p, some ps => some (p :: ps) | _, _ => none) = _
    rw [keyD_k]
    rfl
theorem srtS_id {l : List Str} (h : l.Pairwise (fun a b => leS a b = true)) : srtS l = l :=
  List.Perm.eq_of_pairwise (le := fun a b => leS a b = true) (fun a b _ _ x y => leS_anti x y) (srtS_sorted l) h (srtS_perm l)
theorem srtI_id {l : List Int} (h : l.Pairwise (· ≤ ·)) : srtI l = l := (srtI_uniq (.refl l) h).symm
theorem srtK_strs {ss : List Str} (h : ss ≠ []) : srtK (ss.map .inr) = (srtS ss).map .inr := by unfold srtK; rw [sort_strs h]; rfl
theorem srtK_ints {is : List Int} : srtK (is.map .inl) = (srtI is).map .inl := by unfold srtK; rw [sort_ints]; rfl
theorem zip_tab {ks : List Key} {ns : List D} (nd : ks.Nodup) (hl : ks.length = ns.length) : ∃ v : Key → D, ks.zip ns = tabK ks v ∧ ∀ k ∈ ks, v k ∈ ns := by
  refine ⟨fun k => (getA (ks.zip ns) k).getD .non, ?_, ?_⟩
  · have key : ∀ (ks : List Key) (ns : List D), ks.Nodup → ks.length = ns.length → ∀ v : Key → D, (∀ k ∈ ks, getA (ks.zip ns) k = some (v k)) → ks.zip ns = tabK ks v := by
      intro ks
      induction ks with
      | nil => intros; rfl
      | cons a r ih =>
        intro ns nd hl v h
        cases ns with
        | nil => cases hl
        | cons n ns =>
          rw [List.nodup_cons] at nd
          have h1 := h a (List.mem_cons_self ..)
          rw [List.zip_cons_cons, getA_cons, if_pos rfl] at h1
          show (a, n) :: r.zip ns = (a, v a) :: tabK r v
          rw [show n = v a from Option.some.inj h1, ih ns nd.2 (by simpa using hl) v fun k hk => by
            have h2 := h k (List.mem_cons_of_mem _ hk)
            rwa [List.zip_cons_cons, getA_cons, if_neg (fun z => nd.1 (by rw [show a = k from z]; exact hk))] at h2]
    refine key ks ns nd hl _ fun k hk => ?_
    have : ∀ (ks : List Key) (ns : List D), ks.length = ns.length → k ∈ ks → (getA (ks.zip ns) k).isSome = true := by
      intro ks
      induction ks with
      | nil => intro _ _ h; cases h
      | cons a r ih =>
        intro ns hl h
        cases ns with
        | nil => cases hl
        | cons n ns =>
          rw [List.zip_cons_cons, getA_cons]
          by_cases e : a = k
          · rw [if_pos e]; rfl
          · rw [if_neg e]; exact ih ns (by simpa using hl) ((List.mem_cons.mp h).resolve_left fun z => e z.symm)
    obtain ⟨d, hd⟩ := Option.isSome_iff_exists.mp (this ks ns hl hk)
    rw [hd]; rfl
  · intro k hk
    have : ∀ (ks : List Key) (ns : List D), ks.length = ns.length → k ∈ ks → ((getA (ks.zip ns) k).getD .non) ∈ ns := by
      intro ks
      induction ks with
      | nil => intro _ _ h; cases h
      | cons a r ih =>
        intro ns hl h
        cases ns with
        | nil => cases hl
        | cons n ns =>
          rw [List.zip_cons_cons, getA_cons]
          by_cases e : a = k
          · rw [if_pos e]; exact List.mem_cons_self ..
          · rw [if_neg e]; exact List.mem_cons_of_mem _ (ih ns (by simpa using hl) ((List.mem_cons.mp h).resolve_left fun z => e z.symm))
    exact this ks ns hl hk
end Qd


set_option Elab.async false
set_option linter.all false
set_option maxRecDepth 100000
set_option maxHeartbeats 4000000
/-! Second layer, part Z: the law's own def (its tables known), facts of the text by names, the end. -/
namespace Qd
open PySem L2
/-- a promise where the tables are told -/
def liftSpT (K : PySem.W.Frag) (tb : List (Addr × Str)) (r : RNQ) : Sp := fun vs H Q E => ∃ F A ds, Reps K F vs ds ∧ RS0 K tb F A H ∧ ∃ P : KQ, r ds A P ∧ ∀ d A' v H' F', P d A' → Go0 K tb F A H F' A' H' → Rep K F' v d → Q v H'
section
variable {P : Program} {w : World} {K : PySem.W.Frag} {mg : Str → Option Value} {base : Heap}
theorem def_okT {x qual : Str} {st : Stmt} {f : Addr} {oc : Value} {od an : Option Addr} {osl : Array (Option Value)} {kV doc pm cdv ct : Value} {N ps : List Str} {k : Nat} {r : RNQ} {tb : List (Addr × Str)}
    (lk : K.lookup f = some ⟨oc, od, .func (PySem.W.fnOf x qual (defArgs st) (defBody st) (defScope st) .none kV doc pm an cdv ct), osl⟩) (hcd : PySem.W.codeIn K cdv qual = true) (S : FnScope N ps (defScope st)) (len : ∀ ds A P, r ds A P → ds.length = ps.length)
    (hbody : ∀ (A : Around) (outer : List Env) (s : Shared) (H : Hp) (E : XK), Room k (A.deeper (PyProof.Rows.envOfC qual (defScope st) s.heap.objs.size f cdv)) →
      ∃ t, PSsQ (cxOf CX0 P w K mg base N qual (defScope st) f cdv A outer s H E).nox { tb := tb } (defBody st) t ∧ ∀ ds A P, r ds A P → t { nx := fun _ A' => P .non A', rt := P } (startQ N ds) A) :
    FnOk P w K mg base CX0 (k + 1) f (PySem.W.fnOf x qual (defArgs st) (defBody st) (defScope st) .none kV doc pm an cdv ct) ps (liftSpT K tb r) := by
  refine fn_of lk hcd S (fun vs H Q E ⟨F, A, ds, h1, h2, P, h3, _⟩ => by rw [h1.length]; exact len _ _ _ h3) fun A outer s H vs Q E hr h => ?_
  obtain ⟨F0, A0, ds, h1, h2, PP, h3, h4⟩ := h
  obtain ⟨t, ht, hq⟩ := hbody A outer s H E hr
  have hR : RS K { tb := tb } F0 A0 H := ⟨h2, trivial, fun C fs d A' H' F' z => z.elim⟩
  exact ⟨_, ht.ps.nox, F0, A0, startQ N ds, start_rep h1, hR, _, hq ds A0 PP h3, ⟨fun s' A' σ' H' F' p g _ => h4 _ _ _ _ _ p g.g0 .non, fun d A' v H' F' p g rr => h4 _ _ _ _ _ p g.g0 rr, fun _ _ _ _ _ z => z.elim, fun _ _ _ _ _ z => z.elim⟩⟩
/-- a lambda's body may raise what its caller takes -/
theorem pass_lam {X : Cx} {P : Program} {w : World} {A : Around} {outer : List Env} {s : Shared} {H : Hp} {E : XK} {scope : Scope} {f c' : Addr} (hp : P = X.prog := by rfl) (hw : w = X.w := by rfl) : Passes (L2.CX P w) (LamX.lamCx X A outer s H E scope f c') E := by
  subst hp hw
  exact passes_call (takes_of (E₁ := fun e' s'' => L2.CX X.prog X.w outer H s E e' s'') rfl rfl rfl rfl) fun _ _ _ _ h => h
theorem rep_ints {F : Hp} (ns : List Int) : Reps K F (ns.map V.int) (ns.map D.int) := by
  induction ns with
  | nil => exact .nil
  | cons n ns ih => exact .cons (.int n) ih
/-- what the law's call starts from -/
theorem start_law {H : Hp} {a : Addr} {ns : List Int} {tb : List (Addr × Str)} (hT : ∀ p ∈ tb, H p.1 = some (.tbl #[])) (hS : SqL K H a (ns.map V.int)) :
    ∃ F, RS0 K tb F (fun _ => none) H ∧ Rep K F (.ref a) (.frl (ns.map .int)) := by
  let F : Hp := fun b => match H b with
    | some (.tbl _) => none
    | o => o
  have hF : ∀ b u, F b = some u → H b = some u ∧ Plain u := fun b u e => by
    have e' : (match H b with | some (.tbl _) => none | o => o) = some u := e
    cases h : H b with
    | none => rw [h] at e'; cases e'
    | some o =>
      rw [h] at e'
      cases o <;> first | (cases e'; exact ⟨rfl, trivial⟩) | cases e'
  have hG : ∀ b u, H b = some u → Plain u → F b = some u := fun b u e p => by
    show (match H b with | some (.tbl _) => none | o => o) = some u
    rw [e]
    cases u <;> first | rfl | exact p.elim
  refine ⟨F, ⟨fun b u e => (hF b u e).1, fun b o e => (by cases e), fun p hp => ⟨#[], hT p hp, True.intro, fun pos cv hc => (by cases hc)⟩, fun b u e => (hF b u e).2⟩, .frl ?_ (rep_ints ns)⟩
  rcases hS with (h | ⟨o, h⟩) | h
  · exact .inl (.inl (hG _ _ h trivial))
  · exact .inl (.inr ⟨o, hG _ _ h trivial⟩)
  · exact .inr h
end
/-! ### facts by names -/
/-- an own error class over ValueError, its __init__ with one field -/
def oexB (K : PySem.W.Frag) (C : Addr) : Bool := (match K.lookup C with
  | some ⟨.type t, _, .cls cd, sl⟩ => decide (t = "type") && (match cd.mro, sl.toList with
    | .ref C' :: bm, [_, _, _, _, some (.builtin n), _] => decide (C' = C) && (decide (n = "ValueError.__new__") && (!cd.hasDel && (cd.hasDict && PySem.HandSPX.refsVE bm)))
    | _, _ => false)
  | _ => false) && (decide (PySem.W.findIn K (.ref C) "__setattr__" = some (some (.builtin "object.__setattr__"))) && (decide (PySem.W.subIn K (.ref C) (.type "BaseException") = some true) && (decide (PySem.W.typeIn K (.ref C) = some (.type "type")) && PySem.W.keepIn K (.ref C))))
theorem oexB_ok {K : PySem.W.Frag} {C : Addr} (h : oexB K C = true) : OexC K C := by
  unfold oexB at h
  obtain ⟨h1, h⟩ := Bool.and_eq_true_iff.mp h
  obtain ⟨h2, h⟩ := Bool.and_eq_true_iff.mp h
  obtain ⟨h3, h⟩ := Bool.and_eq_true_iff.mp h
  obtain ⟨h4, h5⟩ := Bool.and_eq_true_iff.mp h
  refine ⟨?_, of_decide_eq_true h2, of_decide_eq_true h3, of_decide_eq_true h4, h5⟩
  cases q : K.lookup C with
  | none => rw [q] at h1; cases h1
  | some o =>
    obtain ⟨oc, od, dt, osl⟩ := o
    rw [q] at h1
    cases oc with
    | type t =>
      cases dt with
      | cls cd =>
        obtain ⟨ht, h1⟩ := Bool.and_eq_true_iff.mp h1
        obtain ⟨n1, n2, n3, n4, n5, n6, n7, n8, n9, n10, n11⟩ := cd
        obtain ⟨sl⟩ := osl
        simp only at h1
        split at h1
        · rename_i C' bm k0 k1 k2 k3 n k5
          obtain ⟨g1, h1⟩ := Bool.and_eq_true_iff.mp h1
          obtain ⟨g2, h1⟩ := Bool.and_eq_true_iff.mp h1
          obtain ⟨g3, h1⟩ := Bool.and_eq_true_iff.mp h1
          obtain ⟨g4, g5⟩ := Bool.and_eq_true_iff.mp h1
          have g3' : n11 = false := by cases n11 <;> first | rfl | cases g3
          have g4' : n6 = true := g4
          subst g3' g4'
          have ht' := of_decide_eq_true ht
          have g1' := of_decide_eq_true g1
          have g2' := of_decide_eq_true g2
          subst ht' g1' g2'
          exact ⟨_, _, _, _, _, _, _, _, _, _, _, _, _, _, _, rfl, g5⟩
        · cases h1
      | _ => cases h1
    | _ => cases dt <;> cases h1
/-- .. all that is asked of such a class -/
def errB (K : PySem.W.Frag) (x f : Str) : Bool := oexB K (He.ga K x) && (xfB K (He.ga K x) && (decide (PySem.W.nsIn K mainGlobals x = some (some (.ref (He.ga K x)))) && (decide (PySem.W.findIn K (.ref (He.ga K x)) f = some none) && (decide (PySem.W.findIn K (.ref (He.ga K x)) "__init__" = some (some (.ref (He.ma K (He.ga K x) "__init__")))) &&
  (decide (PySem.W.typeIn K (.ref (He.ma K (He.ga K x) "__init__")) = some (.type "function")) && decide (PySem.W.exmOne K (.ref (He.ga K x)) (.ref (He.ga K x)) = some true))))))
structure ErrF (K : PySem.W.Frag) (x f : Str) : Prop where
  oex : OexC K (He.ga K x)
  xf : XfC K (He.ga K x)
  gm : PySem.W.nsIn K mainGlobals x = some (some (.ref (He.ga K x)))
  no : PySem.W.findIn K (.ref (He.ga K x)) f = some none
  ini : PySem.W.findIn K (.ref (He.ga K x)) "__init__" = some (some (.ref (He.ma K (He.ga K x) "__init__")))
  tyf : PySem.W.typeIn K (.ref (He.ma K (He.ga K x) "__init__")) = some (.type "function")
  exm : PySem.W.exmOne K (.ref (He.ga K x)) (.ref (He.ga K x)) = some true
theorem errB_ok {K : PySem.W.Frag} {x f : Str} (h : errB K x f = true) : ErrF K x f := by
  obtain ⟨h1, h⟩ := Bool.and_eq_true_iff.mp h
  obtain ⟨h2, h⟩ := Bool.and_eq_true_iff.mp h
  obtain ⟨h3, h⟩ := Bool.and_eq_true_iff.mp h
  obtain ⟨h4, h⟩ := Bool.and_eq_true_iff.mp h
  obtain ⟨h5, h⟩ := Bool.and_eq_true_iff.mp h
  obtain ⟨h6, h7⟩ := Bool.and_eq_true_iff.mp h
  exact ⟨oexB_ok h1, xfB_ok h2, of_decide_eq_true h3, of_decide_eq_true h4, of_decide_eq_true h5, of_decide_eq_true h6, of_decide_eq_true h7⟩
theorem fun_of {K : PySem.W.Frag} {x qual : Str} {st : Stmt} {f : Addr} {fd : FuncData} (F : FunD K x qual (defArgs st) (defBody st) (defScope st) [] [] f fd) : Fun K x qual st f fd := by
  obtain ⟨oc, od, dV, kV, doc, pm, an, cdv, ct, osl, e, lk, hc, hd, _⟩ := F.ex
  have : dV = .none := by
    rcases hd with ⟨_, h⟩ | ⟨h, _⟩
    · exact h
    · exact absurd rfl h
  subst this
  exact ⟨⟨oc, od, kV, doc, pm, an, cdv, ct, osl, e, lk, hc⟩, F.kp⟩
/-- a class's first method -/
def clsDef : Stmt → Stmt
  | .ClassDef _ _ _ body _ _ _ _ _ _ _ => body.getD 0 (.Pass ⟨0, 0, 0, 0⟩)
  | _ => .Pass ⟨0, 0, 0, 0⟩
section
variable {P : Program} {w : World} {K : PySem.W.Frag} {mg : Str → Option Value} {base : Heap}
theorem err_of {h : Heap} (X : K.In h) (G : h.Ns mainGlobals mg) {x f qual : Str} {st : Stmt} {p1 p2 p3 p4 : Pos} (e : ErrF K x f) {fI : Addr} {fd : FuncData} (hfI : fI = He.ma K (He.ga K x) "__init__") (F : Fun K "__init__" qual st fI fd) (S : FnScope ["self", f] ["self", f] (defScope st)) (hb : defBody st = [.Assign [.Attribute (.Name "self" p1) f p2] (.Name f p3) p4])
    (hbd : ∀ (kV doc pm : Value) (an : Option Addr) (cdv ct : Value) (us : List Value), us.length = 2 → bindArgs (PySem.W.fnOf "__init__" qual (defArgs st) (defBody st) (defScope st) .none kV doc pm an cdv ct) ⟨us, []⟩ = pure (([("self" : Str), f]).zip us))
    (hv : Vis (defScope st) "self" := by first | exact Or.inl rfl | exact Or.inr (Or.inl rfl)) (hv2 : Vis (defScope st) f := by first | exact Or.inl rfl | exact Or.inr (Or.inl rfl)) (hd : (f == ("__debug__" : Str)) = false := by decide) (hcd : (f == ("__classdict__" : Str)) = false := by decide)
    (hs : ∀ env : Env, swapsWith (.Name f p3) (some (.Attribute (.Name "self" p1) f p2)) p4.line env = pure false := by intro env; rfl) : ErrC P w K mg base 1 x (He.ga K x) f := by
  subst hfI
  exact ⟨e.oex, PySem.W.mg_of X G e.gm, _, fd, e.ini, e.tyf, init_ok F S hb e.oex e.no hv hv2 hd hcd hs, F.binds hbd⟩
end
end Qd


set_option Elab.async false
set_option linter.all false
set_option maxRecDepth 100000
set_option maxHeartbeats 1000000
/-! Second layer, part V: own errors without fields; several except clauses, with and without a name; met with such clauses. -/
namespace Qd
open PySem L2 LamX
/-! ### errors without fields -/
structure Err0 (K : PySem.W.Frag) (mg : Str → Option Value) (x : Str) (C : Addr) : Prop where
  ex : PySem.W.excIn K C He.veBase "ValueError.__new__" = true
  gm : mg x = some (.ref C)
  kp : PySem.W.keepIn K (.ref C) = true
  sb : PySem.W.subIn K (.ref C) (.type "BaseException") = some true
  ty : PySem.W.typeIn K (.ref C) = some (.type "type")
section
variable {X : Cx} {T : Tz} {x : Str} {C : Addr} {p pos pos2 : Pos}
theorem pmk_zero (E : Err0 X.K X.mg x C) (hg : Gl X x) (hdb : (x == ("__debug__" : Str)) = false := by decide) : PMk X (.Call (.Name x p) [] [] pos) (fun _ H Q => Q (.ref C) none H) := by
  intro pins s σ H Q I h
  refine wpAny_Call_Name_kw (ld_glob I hg E.gm ?_ hdb)
  refine PySem.W.callWith_K0 I.kIn E.kp ?_
  show wpAny _ _ (call (.ref C) []) _ _ _
  obtain ⟨bm, N, nm, qn, bs, hdct, sn, sub, ab, col, dd, k0, k1, k2, k3, k5, mN, hC, hN, hni, TT⟩ := exc_obj I.kIn E.ex
  refine wpAny_call_exc_subT PySem.F.excBase_ValueError TT hC hN hni (fun h' e hm => ?_) (by show 0 ≤ sizeLine; exact Nat.zero_le _)
  exact mk_of I hm (raises_own E.sb E.ty) h (I.hok.gone hm.new)
def qRaise0 (T : Tz) (C : Addr) : TSQ := fun _ _ A => T.x2 C [] A
theorem psq_raise0 (E : Err0 X.K X.mg x C) (hc : X.calm = true) (tk : Takes X (fun cls d _ H => T.xe cls d H)) (hg : Gl X x := by rfl) (hdb : (x == ("__debug__" : Str)) = false := by decide) :
    PSQ X T (.Raise (some (.Call (.Name x p) [] [] pos)) none pos2) (qRaise0 T C) :=
  ⟨(ps_raise hc tk (pmk_zero (p := p) (pos := pos) E hg hdb)).wk fun D σ H h => by
    obtain ⟨F0, A, s, hs, hR, D2, ht, k⟩ := h
    exact hR.xr.2 C [] none A _ _ ht hR.r0.go (.inl rfl)⟩
end
/-! ### several except clauses, their suites return -/
abbrev HdT := Value × Option Nat × (Addr → Value → Option Addr → TS)
def retE (D : Ends) : Ends := { nx := fun _ _ => False, rt := D.rt, bk := fun _ _ => False, ct := fun _ _ => False }
def wMix (K : PySem.W.Frag) (Wout : WX) (D : Ends) : List HdT → WX
  | [] => Wout
  | (c, none, ts) :: r => fun cls d σ H => ∃ b, PySem.W.exmOne K cls c = some b ∧ (b = true → ∀ a, H a = none → ts a cls d (retE D) σ H) ∧ (b = false → wMix K Wout D r cls d σ H)
  | (c, some i, ts) :: r => fun cls d σ H => ∃ b, PySem.W.exmOne K cls c = some b ∧ (b = true → ∀ a, H a = none → ts a cls d (retE D) (σ.set i (some (.ref a))) H) ∧ (b = false → wMix K Wout D r cls d σ H)
inductive HdsM (X : Cx) : List ExceptHandler → List HdT → Prop
  | nil : HdsM X [] []
  | plain {x : Str} {c : Value} {ts : Addr → Value → Option Addr → TS} {b₀ : Stmt} {suite : List Stmt} {np pos' : Pos} {hds : List ExceptHandler} {l : List HdT} (hc : Names X x c)
      (hsu : ∀ (a : Addr) (oe : Obj) (cls : Value) (d : Option Addr) (pn : List (Addr × Obj)), Zc cls d oe → (∃ vs, oe.data = .fields vs) → PSs (X.suite a ((a, oe) :: pn)) (b₀ :: suite) (ts a cls d)) (r : HdsM X hds l) :
      HdsM X (.ExceptHandler (some (.Name x np)) none (b₀ :: suite) pos' :: hds) ((c, none, ts) :: l)
  | named {x n : Str} {i : Nat} {c : Value} {ts : Addr → Value → Option Addr → TS} {b₀ : Stmt} {suite : List Stmt} {np pos' : Pos} {hds : List ExceptHandler} {l : List HdT} (hN : X.N.Nodup) (hi : X.N[i]? = some n) (hln : X.env.kindOf n = some .local) (hc : Names X x c)
      (hsu : ∀ (a : Addr) (oe : Obj) (cls : Value) (d : Option Addr) (pn : List (Addr × Obj)), Zc cls d oe → (∃ vs, oe.data = .fields vs) → PSs (X.suite a ((a, oe) :: pn)) (b₀ :: suite) (ts a cls d)) (r : HdsM X hds l) :
      HdsM X (.ExceptHandler (some (.Name x np)) (some n) (b₀ :: suite) pos' :: hds) ((c, some i, ts) :: l)
section
variable {X : Cx} {body : List Stmt} {h₀ : ExceptHandler} {hds : List ExceptHandler} {l : List HdT} {pos : Pos} {tb : WX → TS} {Wout : WX}
theorem ps_try_mix (hs : X.stack = X.env :: X.outer) (hf : X.env.frame = some X.env.locals) (tk : Takes X Wout)
    (hb : ∀ (W : WX) (pn : List (Addr × Obj)) (xe : Value → Shared → Prop), Takes (X.tr pn xe) W → PassesOwn (model X.prog X.w) X.A X.env xe → PSs (X.tr pn xe) body (tb W))
    (hh : HdsM X (h₀ :: hds) l) : PS X (.Try body (h₀ :: hds) [] [] pos) (fun D σ H => tb (wMix X.K Wout D l) D σ H) := by
  refine ⟨fun pins s σ H D I h => ?_⟩
  have ok := I.ok
  have hfr : X.A.frames = some (X.env :: X.outer) := by rw [ok.frames, hs]
  refine wpAny_Try_except ?_
  refine wpAny_mono ((hb (wMix X.K Wout D l) (X.pn ++ pins) (fun e s₁ => wpAny (model X.prog X.w) X.A (noteFrame e X.env) (fun _ s₂ => wpAny (model X.prog X.w) X.A (setFlight e none) (fun _ s₃ =>
    wpAny (model X.prog X.w) X.A (handleBy e X.env (h₀ :: hds)) (SP X pins D) X.xe s₃) X.xe s₂) X.xe s₁) (fun u s' xx => ?_) PassesOwn.looking).run [] s σ H D (I.toTry _) h) (fun f s1 hsp => ?_) (fun e s1 he => he)
  · obtain ⟨ea, B, sI, pins', σ', H', cls, d, rfl, J', nbw, up, sky, na, eos, ag, wsh⟩ := xx
    have J : Inv X pins σ' H' sI := J'.ofTry ok
    have sky' : Sky B (X.env :: X.outer) ea (Zc cls d) X.env.locals s'.heap := by rw [← hs]; exact sky
    show wpAny (model X.prog X.w) X.A (noteFrame (.ref ea) X.env) _ _ _
    refine Sky.land Zc.steady hfr hf sky' fun h3 fl3 up3 => ?_
    have J3 : Inv X pins σ' H' { s' with heap := h3 } := J.landed nbw fl3.1 (up.trans up3) eos ag
    obtain ⟨oe3, vs3, he3, hz3, hd3⟩ := fl3.there
    have outF : ∀ {h : Heap} {o : Obj} {vs : Array Value}, h.FunFrames B (X.env :: X.outer) → h.get? ea = some o → o.data = .fields vs → ea ∉ frs (X.env :: X.outer) := fun {h o vs} ff e dd hm => by
      obtain ⟨_, o', e', hnf⟩ := ff.mem hm
      rw [e] at e'; cases e'
      exact hnf _ dd
    have nfr := outF fl3.2.2.1 he3 hd3
    have nLoc : ea ≠ X.env.locals := fun z => nfr (List.mem_filterMap.mpr ⟨X.env, List.mem_cons_self, by rw [hf, z]⟩)
    have nFs : ea ∉ X.fs := fun hm => by
      obtain ⟨e, he, q⟩ := List.mem_filterMap.mp hm
      exact nfr (List.mem_filterMap.mpr ⟨e, List.mem_cons_of_mem _ he, q⟩)
    have S3 := J3.suite he3 hd3 na nLoc nFs
    have names : ∀ {x : Str} {c : Value} {np : Pos}, Names X x c → ∀ {Q : Value → Shared → Prop} {E : Value → Shared → Prop}, Q c { s' with heap := h3 } → wpAny (model X.prog X.w) (X.A.mark (some (.ref ea))) (eval (.Name x np) X.env) Q E { s' with heap := h3 } := fun {x c np} hc {Q E} q => by
      obtain ⟨hg, hdbg, hm | ⟨hm, hv, hnn⟩⟩ := hc
      · exact ld_glob (X := X.suite ea ((ea, oe3) :: (X.pn ++ pins))) S3 hg hm q hdbg
      · exact ld_blt (X := X.suite ea ((ea, oe3) :: (X.pn ++ pins))) S3 hg hm hv q hnn hdbg
    have LT : PySem.W.Looks (model X.prog X.w) h3 (typeOf (.ref ea)) cls := fun A Q E s k q => wpAny_typeOf_ref (k _ _ he3) (by rw [hz3.1]; exact q)
    have go : ∀ {hds' : List ExceptHandler} {l' : List HdT}, HdsM X hds' l' → wMix X.K Wout D l' cls d σ' H' →
        wpAny (model X.prog X.w) X.A (handleBy (.ref ea) X.env hds') (SP X pins D) X.xe { s' with heap := h3 } := by
      intro hds' l' hk
      induction hk with
      | nil =>
        intro w
        refine wpAny_handleBy_nil ?_
        obtain ⟨k1, k2, k3, oe, vs, Tb, oT, ts', he, hz, hd, h1, hr⟩ := id fl3
        unfold PySem.passOn
        refine wpAny_bind (wpAny_field he hd h1 ?_)
        rw [if_neg (show ¬ ((Value.ref Tb == Value.none) = true) from by simp)]
        have fin : wpAny (model X.prog X.w) X.A (setFlight (.ref ea) X.env.frame) (fun _ s4 => wpAny (model X.prog X.w) X.A (throw (.ref ea) : Sem Flow) (SP X pins D) X.xe s4) X.xe { s' with heap := h3 } := by
          rw [hf]
          refine HandSPX.setFlight_upZ fl3 fun h4 hh4 up4 => wpAny_throw (tk _ _ ?_)
          exact ⟨ea, B, sI, pins, σ', H', cls, d, rfl, J, nbw, (up.trans up3).trans up4, .inr (.inr (by rw [hs]; exact hh4)), na, eos, ag, w⟩
        first
          | exact wpAny_bind (wpAny_pure (wpAny_bind fin))
          | exact wpAny_bind fin
      | @plain x c ts b₀ suite np pos' hds2 l2 hc hsu r ih =>
        intro w
        obtain ⟨b, hb1, hyes, hno⟩ := w
        refine wpAny_handleBy_cons (codeAny_handlers_test ?_) (by intro q; cases q)
        have LM := PySem.W.exm_one (M := model X.prog X.w) (J3.kIn) LT hb1
        refine names hc (LM.here ?_)
        cases b with
        | true =>
          refine codeAny_handlers_suite ?_
          refine HandSPX.lands_againZ fl3 fun h4 fl4 up4 => ?_
          have J4 : Inv X pins σ' H' { s' with heap := h4 } := J.landed nbw fl4.1 ((up.trans up3).trans up4) eos ag
          obtain ⟨oe4, vs4, he4, hz4, hd4⟩ := fl4.there
          have S4 := J4.suite he4 hd4 na nLoc nFs
          refine wpAny_mono ((hsu ea oe4 cls d (X.pn ++ pins) hz4 ⟨_, hd4⟩).run [] _ _ H' _ S4 (hyes rfl ea na)) (fun f s6 hsp => ?_) (fun _ _ z => False.elim z)
          cases f with
          | next =>
            obtain ⟨σ6, H6, S6, q6⟩ := hsp
            exact q6.elim
          | brk =>
            obtain ⟨σ6, H6, S6, q6⟩ := hsp
            exact q6.elim
          | cont =>
            obtain ⟨σ6, H6, S6, q6⟩ := hsp
            exact q6.elim
          | ret u =>
            obtain ⟨v6, σ6, H6, S6, r6, q6⟩ := hsp
            exact ⟨_, _, _, S6.unsuite ok, r6, q6⟩
        | false =>
          show wpAny _ X.A (handleBy (.ref ea) X.env hds2) _ _ _
          exact ih (hno rfl)
      | @named x n i c ts b₀ suite np pos' hds2 l2 hN hi hln hc hsu r ih =>
        intro w
        obtain ⟨b, hb1, hyes, hno⟩ := w
        have hloc : Loc X.env.scope n := .inl hln
        refine wpAny_handleBy_cons (codeAny_handlers_test ?_) (by intro q; cases q)
        have LM := PySem.W.exm_one (M := model X.prog X.w) (J3.kIn) LT hb1
        refine names hc (LM.here ?_)
        cases b with
        | true =>
          refine codeAny_handlers_suite_as ?_
          refine HandSPX.lands_againZ fl3 fun h4 fl4 up4 => ?_
          have J4 : Inv X pins σ' H' { s' with heap := h4 } := J.landed nbw fl4.1 ((up.trans up3).trans up4) eos ag
          obtain ⟨oe4, vs4, he4, hz4, hd4⟩ := fl4.there
          have S4 := J4.suite he4 hd4 na nLoc nFs
          refine store_ok (X := X.suite ea ((ea, oe4) :: (X.pn ++ pins))) (v := .ref ea) S4 hN hi hloc rfl (fun s5 S5 => ?_) (.inr hln)
          refine wpAny_mono ((hsu ea oe4 cls d (X.pn ++ pins) hz4 ⟨_, hd4⟩).run [] s5 _ H' _ S5 (hyes rfl ea na)) (fun f s6 hsp => ?_) (fun _ _ z => False.elim z)
          cases f with
          | next =>
            obtain ⟨σ6, H6, S6, q6⟩ := hsp
            exact q6.elim
          | brk =>
            obtain ⟨σ6, H6, S6, q6⟩ := hsp
            exact q6.elim
          | cont =>
            obtain ⟨σ6, H6, S6, q6⟩ := hsp
            exact q6.elim
          | ret u =>
            obtain ⟨v6, σ6, H6, S6, r6, q6⟩ := hsp
            exact gone_ok (S6.unsuite ok) hN hi hln fun s7 J7 => ⟨_, _, _, J7, r6, q6⟩
        | false =>
          show wpAny _ X.A (handleBy (.ref ea) X.env hds2) _ _ _
          exact ih (hno rfl)
    exact go hh wsh
  · cases f with
    | next =>
      obtain ⟨σ', H', J', q⟩ := hsp
      exact wpAny_execs_nil ⟨σ', H', J'.ofTry ok, q⟩
    | brk =>
      obtain ⟨σ', H', J', q⟩ := hsp
      exact ⟨σ', H', J'.ofTry ok, q⟩
    | cont =>
      obtain ⟨σ', H', J', q⟩ := hsp
      exact ⟨σ', H', J'.ofTry ok, q⟩
    | ret u =>
      obtain ⟨v, σ', H', J', r, q⟩ := hsp
      exact ⟨v, σ', H', J'.ofTry ok, r, q⟩
end
/-! ### met(lambda: e): told, or one of the ways out -/
/-- a clause: the class, the word, the field that is told (none: None) -/
abbrev MetC := Addr × Str × Option Str
def metV (K : PySem.W.Frag) : List MetC → Value → Option Addr → Hp → VK → Prop
  | [], _, _, _, _ => False
  | (C, w, o) :: r, cls, d, H, Q => ∃ b, PySem.W.exmOne K cls (.ref C) = some b ∧ (b = true → (match o with
    | none => ∀ p, H p = none → Q (.ref p) (upd H p (.tup [.str w, .non]))
    | some f => cls = .ref C ∧ ∃ dx vs v, d = some dx ∧ H dx = some (.xd vs) ∧ vs.lookup f = some v ∧ ∀ p, H p = none → Q (.ref p) (upd H p (.tup [.str w, v])))) ∧ (b = false → metV K r cls d H Q)
def TTms (K : PySem.W.Frag) (cs : List MetC) (told : Str) : (XK → Hp → VK → Prop) → Hp → VK → Prop := fun tl H Q =>
  tl (fun cls d H' => metV K cs cls d H' Q) H (fun v H' => [V.str told, v].length ≤ sizeLine ∧ ∀ p, H' p = none → Q (.ref p) (upd H' p (.tup [.str told, v])))
/-- the clauses as they stand in the text, within the def x with its names ask and e -/
inductive MetH (X : Cx) (Ng : List Str) (x : Str) (sg : Scope) (g : Addr) (cdg : Value) : List ExceptHandler → List MetC → Prop
  | nil : MetH X Ng x sg g cdg [] []
  | plain {ec w : Str} {C : Addr} {j k : Nat} {p1 p2 p3 p4 p5 p6 : Pos} {hds : List ExceptHandler} {cs : List MetC} (hge : sg.names.lookup ec = some .globalImplicit) (hme : X.mg ec = some (.ref C)) (hde : (ec == ("__debug__" : Str)) = false) (r : MetH X Ng x sg g cdg hds cs)
      (s1 : ∀ env : Env, starEach [.Constant (.str w) j p1, .Constant .none k p2] env = (false, eval (.Constant (.str w) j p1) env) :: starEach [.Constant .none k p2] env := by intro env; rfl)
      (s2 : ∀ env : Env, starEach [.Constant .none k p2] env = (false, eval (.Constant .none k p2) env) :: starEach [] env := by intro env; rfl) :
      MetH X Ng x sg g cdg (.ExceptHandler (some (.Name ec p3)) none [.Return (some (.Tuple [.Constant (.str w) j p1, .Constant .none k p2] k p4)) p5] p6 :: hds) ((C, w, none) :: cs)
  | named {ec w f : Str} {C : Addr} {j k2 : Nat} {p6 p7 p8 p9 p10 p11 p12 : Pos} {hds : List ExceptHandler} {cs : List MetC} (hge : sg.names.lookup ec = some .globalImplicit) (hme : X.mg ec = some (.ref C)) (hde : (ec == ("__debug__" : Str)) = false) (G : XfC X.K C) (hno : PySem.W.findIn X.K (.ref C) f = some none) (hi : Ng[1]? = some ("e" : Str)) (hle : sg.names.lookup ("e" : Str) = some .local) (r : MetH X Ng x sg g cdg hds cs)
      (s1 : ∀ env : Env, starEach [.Constant (.str w) j p8, .Attribute (.Name "e" p6) f p7] env = (false, eval (.Constant (.str w) j p8) env) :: starEach [.Attribute (.Name "e" p6) f p7] env := by intro env; rfl)
      (s2 : ∀ env : Env, starEach [.Attribute (.Name "e" p6) f p7] env = (false, eval (.Attribute (.Name "e" p6) f p7) env) :: starEach [] env := by intro env; rfl)
      (hba : ∀ env : Env, attributeBase (.Name "e" p6) f env (eval (.Name "e" p6) env) = eval (.Name "e" p6) env := by intro env; rfl) :
      MetH X Ng x sg g cdg (.ExceptHandler (some (.Name ec p9)) (some "e") [.Return (some (.Tuple [.Constant (.str w) j p8, .Attribute (.Name "e" p6) f p7] k2 p10)) p11] p12 :: hds) ((C, w, some f) :: cs)
def hdL : List MetC → List HdT
  | [] => []
  | (C, w, none) :: r => (.ref C, none, fun _ _ _ D _ H => ∀ p, H p = none → D.rt (.ref p) (upd H p (.tup [.str w, .non]))) :: hdL r
  | (C, w, some f) :: r => (.ref C, some 1, fun a cls d D σ H => ∃ dx vs v, cls = .ref C ∧ σ[1]? = some (some (.ref a)) ∧ d = some dx ∧ H dx = some (.xd vs) ∧ vs.lookup f = some v ∧ ∀ p, H p = none → D.rt (.ref p) (upd H p (.tup [.str w, v]))) :: hdL r
section
variable {X : Cx} {Ng : List Str} {x : Str} {sg : Scope} {g : Addr} {cdg : Value} {hds : List ExceptHandler} {cs : List MetC}
theorem two_size : ∀ n, n = 2 → n ≤ sizeLine := fun n e => by rw [e, sizeLine_eq]; decide
theorem hds_of (Sg : FnScope Ng ["ask"] sg) {s : Shared} {H : Hp} (h : MetH X Ng x sg g cdg hds cs) : HdsM ((cxOf C8.CX0 X.prog X.w X.K X.mg X.base Ng x sg g cdg X.A X.stack s H C8.E0).nox) hds (hdL cs) := by
  induction h with
  | nil => exact .nil
  | plain hge hme hde r s1 s2 ih =>
    refine .plain ⟨hge, hde, .inl hme⟩ (fun a oe cls d pn hz hd => ⟨fun pins s' σ H' D I h' => ?_⟩) ih
    exact (pss_one (ps_ret (pe_tup (pa_cons pe_str (pa_cons pe_non pa_nil (s2 _)) (s1 _))))).run pins s' σ H' D I ⟨two_size _ rfl, h'⟩
  | named hge hme hde G hno hi hle r s1 s2 hba ih =>
    rename_i p6 p7 _ _ _ _ _ _ _
    refine .named Sg.nd hi hle ⟨hge, hde, .inl hme⟩ (fun a oe cls d pn hz hd => ⟨fun pins s' σ H' D I h' => ?_⟩) ih
    obtain ⟨dx, vs, v, rfl, h1, h2, h3, h4, h5⟩ := h'
    have hv : Vis sg ("e" : Str) := .inl hle
    have hpe : PE (Cx.suite ((cxOf C8.CX0 X.prog X.w X.K X.mg X.base Ng x sg g cdg X.A X.stack s H C8.E0).nox) a ((a, oe) :: pn)) (.Name "e" p6) (tVar 1) := pv 1 hi hv
    have hpx := pe_xf (X := (cxOf C8.CX0 X.prog X.w X.K X.mg X.base Ng x sg g cdg X.A X.stack s H C8.E0).nox) (pos := p7) G hno hz hd hpe (hba _)
    refine (pss_one (ps_ret (pe_tup (pa_cons pe_str (pa_cons hpx pa_nil (s2 _)) (s1 _))))).run pins s' σ H' D I ?_
    exact ⟨.ref a, h1, rfl, rfl, dx, vs, v, h2, h3, h4, two_size _ rfl, h5⟩
theorem mix_of (h : MetH X Ng x sg g cdg hds cs) {K : PySem.W.Frag} {D : Ends} {cls : Value} {d : Option Addr} {σ : L2.St} {H : Hp} (hl : σ.length = Ng.length) (m : metV K cs cls d H D.rt) : wMix K (fun _ _ _ _ => False) D (hdL cs) cls d σ H := by
  induction h with
  | nil => exact m
  | plain hge hme hde r s1 s2 ih =>
    obtain ⟨b, h1, h2, h3⟩ := m
    exact ⟨b, h1, fun hb a ha => h2 hb, fun hb => ih (h3 hb)⟩
  | named hge hme hde G hno hi hle r s1 s2 hba ih =>
    obtain ⟨b, h1, h2, h3⟩ := m
    refine ⟨b, h1, fun hb a ha => ?_, fun hb => ih (h3 hb)⟩
    obtain ⟨e1, dx, vs, v, e2, e3, e4, e5⟩ := h2 hb
    refine ⟨dx, vs, v, e1, ?_, e2, e3, e4, e5⟩
    have : 1 < Ng.length := (List.getElem?_eq_some_iff.mp hi).1
    rw [List.getElem?_set_self (by omega)]
theorem mets_gives {told q : Str} {h₀ : ExceptHandler} {j1 k1 : Nat} {p1 p2 p3 p4 p5 p13 : Pos} (Sg : FnScope Ng ["ask"] sg) (hN0 : (L2.start Ng [V.ref 0]).length = Ng.length) (h0 : ∀ f : Addr, (L2.start Ng [V.ref f])[0]? = some (some (V.ref f))) (M : MetH X Ng x sg g cdg (h₀ :: hds) cs)
    (hsw : ∀ env : Env, starEach [.Constant (.str told) j1 p3, .Call (.Name "ask" p1) [] [] p2] env = (false, eval (.Constant (.str told) j1 p3) env) :: starEach [.Call (.Name "ask" p1) [] [] p2] env := by intro env; rfl)
    (hsw2 : ∀ env : Env, starEach [.Call (.Name "ask" p1) [] [] p2] env = (false, eval (.Call (.Name "ask" p1) [] [] p2) env) :: starEach [] env := by intro env; rfl) :
    GivesTo X Ng x sg g cdg [.Try [.Return (some (.Tuple [.Constant (.str told) j1 p3, .Call (.Name "ask" p1) [] [] p2] k1 p4)) p5] (h₀ :: hds) [] [] p13] "ask" q (TTms X.K cs told) := by
  intro fa c' s H Q tl act hc h
  refine ⟨_, pss_one (ps_try_mix (X := (cxOf C8.CX0 X.prog X.w X.K X.mg X.base Ng x sg g cdg X.A X.stack s H C8.E0).nox) (Wout := fun _ _ _ _ => False) (l := hdL cs)
      (tb := fun W D σ H => ∃ Ech : XK, (∀ cls d σ' H', σ'.length = Ng.length → Ech cls d H' → W cls d σ' H') ∧ σ[0]? = some (some (.ref fa)) ∧ H c' = some (CodeO c' q) ∧ tl Ech H fun v H' => [V.str told, v].length ≤ sizeLine ∧ ∀ p, H' p = none → D.rt (.ref p) (upd H' p (.tup [.str told, v])))
      rfl rfl LamX.takes0 (fun W pn xe tk _ => ⟨fun pins s' σ H' D I h' => ?_⟩) (hds_of Sg M)), ?_⟩
  · obtain ⟨Ech, hW, h1, h2, h3⟩ := h'
    have hp := act (fun cls d σ H => σ.length = Ng.length → W cls d σ H) pn xe Ech p1 p2 (takes_len tk fun c d σ H hl w => w hl) (fun cls d σ' H' e hl => hW cls d σ' H' hl e)
    exact (pss_one (ps_ret (pos := p5) (pe_tup (x1 := k1) (pos := p4) (pa_cons pe_str (pa_cons hp pa_nil (hsw2 _)) (hsw _))))).run pins s' σ H' D I ⟨h1, h2, h3⟩
  · exact ⟨fun cls d H' => metV X.K cs cls d H' Q, fun cls d σ' H' hl e => mix_of M hl e, h0 fa, hc, h⟩
end
/-! ### over data -/
/-- which classes are alike: told by pairs -/
def metQ (ex : Addr → Addr → Option Bool) (P : KQ) : List MetC → Addr → List (Str × D) → MH → Prop
  | [], _, _, _ => False
  | (C, w, o) :: r, C', fs, A => (ex C' C = some true ∧ (match o with
    | none => P (.tup [.str w, .non]) A
    | some f => C' = C ∧ ∃ v, fs.lookup f = some v ∧ P (.tup [.str w, v]) A)) ∨ (ex C' C = some false ∧ metQ ex P r C' fs A)
def qMets (ex : Addr → Addr → Option Bool) (cs : List MetC) (told : Str) (tB : XKQ → TQ) : TQ := fun s A P => tB (fun C' fs A1 => metQ ex P cs C' fs A1) s A fun d A1 => P (.tup [.str told, d]) A1
section
variable {X : Cx} {T : Tz}
theorem met_pay {K : PySem.W.Frag} {ex : Addr → Addr → Option Bool} (hex : ∀ c d b, ex c d = some b → PySem.W.exmOne K (.ref c) (.ref d) = some b) {P : KQ} {Q : VK} {C' : Addr} {fs : List (Str × D)} {d : Option Addr} {F F' H H' : Hp} {A A' : MH} (g3 : Go K T F A H F' A' H') (xd : XD K F' d fs)
    (k : ∀ d A' v H' F', P d A' → Go K T F A H F' A' H' → Rep K F' v d → Q v H') : ∀ {cs : List MetC}, metQ ex P cs C' fs A' → metV K cs (.ref C') d H' Q
  | [], m => m
  | (C, w, none) :: r, m => by
    rcases m with ⟨e, px⟩ | ⟨e, px⟩
    · refine ⟨true, hex _ _ _ e, fun _ p hp => ?_, (fun z => nomatch z)⟩
      have g4 := g3.rs.goF (u := .tup [.str w, .non]) hp trivial
      exact k _ _ _ _ _ px (g3.trans g4) (.tup (.of upd_same) (.cons (.str _) (.cons .non .nil)))
    · exact ⟨false, hex _ _ _ e, (fun z => nomatch z), fun _ => met_pay hex g3 xd k px⟩
  | (C, w, some f) :: r, m => by
    rcases m with ⟨e, rfl, v, e1, px⟩ | ⟨e, px⟩
    · refine ⟨true, hex _ _ _ e, fun _ => ?_, (fun z => nomatch z)⟩
      rcases xd with z | ⟨dx, vs, h1, h2, h3⟩
      · subst z; simp at e1
      · obtain ⟨y, h4, h5⟩ := fs_lookup h3 e1
        refine ⟨rfl, dx, vs, y, h1, g3.rs.sub _ _ h2, h4, fun p hp => ?_⟩
        have g4 := g3.rs.goF (u := .tup [.str w, y]) hp trivial
        exact k _ _ _ _ _ px (g3.trans g4) (.tup (.of upd_same) (.cons (.str _) (.cons (h5.mono g4.ext) .nil)))
    · exact ⟨false, hex _ _ _ e, (fun z => nomatch z), fun _ => met_pay hex g3 xd k px⟩
theorem lift_mets {K : PySem.W.Frag} {ex : Addr → Addr → Option Bool} {cs : List MetC} {told : Str} {tB : XKQ → TQ} (hex : ∀ c d b, ex c d = some b → PySem.W.exmOne K (.ref c) (.ref d) = some b) {σ : L2.St} {H : Hp} {Q : VK} (h : lift K T (qMets ex cs told tB) σ H Q) :
    LamX.tLam T.tb (TTms K cs told) (fun E σ H Q => ∃ x2, lift K { tb := T.tb, xe := E, x2 := x2 } (tB x2) σ H Q) σ H Q := by
  obtain ⟨F, A, s, hs, hR, P, ht, k⟩ := h
  refine ⟨hR.tab, fun H1 e t => ?_⟩
  have g := ext_go hR.r0 e t
  refine ⟨_, F, A, s, hs, ⟨g.rs, trivial, fun C' fs d A' H' F' px g2 xd => met_pay hex (hR.to (g.trans g2)) xd k px⟩, _, ht, fun d A' v H' F' p g2 r => ⟨by rw [sizeLine_eq]; simp, fun q hq => ?_⟩⟩
  have g3 : Go K T F A H F' A' H' := hR.to (g.trans g2.g0)
  have g4 := g3.rs.goF (u := .tup [.str told, v]) hq trivial
  exact k _ _ _ _ _ p (g3.trans g4) (.tup (.of upd_same) (.cons (.str _) (.cons (r.mono g4.ext) .nil)))
theorem pq_mets {ex : Addr → Addr → Option Bool} {cs : List MetC} {told x a : Str} {g c P : Addr} {k : Nat} {pg : Arguments} {bg : List Stmt} {sg : Scope} {dV kV doc pm cdv ct oc : Value} {an od : Option Addr} {osl : Array (Option Value)} {Ng : List Str} {tB : XKQ → TQ}
    {params : Arguments} {body : Expr} {scope : Scope} {p lpos pos : Pos} (hm : X.mg x = some (.ref g)) (hk : PySem.W.keepIn X.K (.ref g) = true)
    (lk : X.K.lookup g = some ⟨oc, od, .func (PySem.W.fnOf x x pg bg sg dV kV doc pm an cdv ct), osl⟩) (hcg : PySem.W.codeIn X.K cdv x = true) (hb : L2.Binds X.K (PySem.W.fnOf x x pg bg sg dV kV doc pm an cdv ct) [a] []) (Sg : FnScope Ng [a] sg) (hNg : Ng[0]? = some a) (hva : Vis sg a)
    (hex : ∀ c d b, ex c d = some b → PySem.W.exmOne X.K (.ref c) (.ref d) = some b) (hG : LamX.GivesTo X Ng x sg g cdv bg a (X.env.qual ++ "<lambda>") (TTms X.K cs told))
    (TB : LamX.TabB X.base X.mg c P) (hcode : X.env.code = .ref c) (hmT : (P, X.env.qual ++ "<lambda>") ∈ T.tb) (hu : ∀ p ∈ T.tb, p.1 = P → p.2 = X.env.qual ++ "<lambda>") (hr : Room (k + 2) X.A) (L : LamX.LamS X.env.scope scope)
    (hbody : ∀ (A : Around) (outer : List Env) (s : Shared) (H : Hp) (E : XK) (f c' : Addr) (x2 : XKQ), Room k (A.deeper (LamX.lamEnv X scope s.heap.objs.size f c')) → PQ (LamX.lamCx X A outer s H E scope f c') { tb := T.tb, xe := E, x2 := x2 } body (tB x2)) (hdef : defaultsOf params X.env = ([], []) := by rfl)
    (hbind : ∀ (q : Str) (cl : List (Str × Addr)) (pm cv ctv : Value), bindArgs (PySem.W.kla_fn "<lambda>" q params body scope cl pm cv ctv) ⟨[], []⟩ = pure [] := by intros; rfl) (hg : Gl X x := by rfl)
    (hdb : (x == ("__debug__" : Str)) = false := by decide) (hd : (a == ("__debug__" : Str)) = false := by decide) (hcd : (a == ("__classdict__" : Str)) = false := by decide) :
    PQ X T (.Call (.Name x p) [.Lambda params body scope lpos] [] pos) (qMets ex cs told tB) :=
  ⟨(LamX.pe_lamcall (t := fun E σ H Q => ∃ x2, lift X.K { tb := T.tb, xe := E, x2 := x2 } (tB x2) σ H Q) hg hm hk lk hcg hb Sg hNg hva hG TB hcode hmT hu hr L hdef hbind (fun A outer s H E f c' hr' => ⟨fun pins s σ H Q I h => by
    obtain ⟨x2, h⟩ := h
    exact (hbody A outer _ _ E f c' x2 hr').pe.run pins s σ H Q I h⟩) hdb hd hcd).wk fun _ _ _ h => lift_mets hex h⟩
end
end Qd


set_option Elab.async false
set_option linter.all false
set_option maxRecDepth 100000
set_option maxHeartbeats 1000000
/-! Second layer, part R1: join of texts; min of two; order of lists. -/
namespace Qd
open PySem L2 LamX
section
variable {X : Cx} {T : Tz} {o e : Expr} {to te : TQ} {apos pos : Pos}
/-- sep.join(texts) -/
def qJoin (to te : TQ) : TQ := fun s A P => to s A fun x A1 => match x with
  | .str a => te s A1 fun y A2 => okQ ((seqD A2 y).bind strsD) fun ys => (ys.map (·.length)).sum + ys.length * a.length ≤ 16777216 ∧ P (.str (Txt.join a ys)) A2
  | _ => False
theorem pq_join (ho : PQ X T o to) (he : PQ X T e te) (hs : starEach [e] X.env = [(false, eval e X.env)] := by rfl) (hbase : attributeBase o "join" X.env (eval o X.env) = eval o X.env := by rfl) (hline : (apos.endLine == pos.line) = true := by rfl) :
    PQ X T (.Call (.Attribute o "join" apos) [e] [] pos) (qJoin to te) :=
  ⟨(pe_join ho.pe he.pe hs hbase hline).wk fun σ H Q h => by
    obtain ⟨F, A, s, hs, hR, P, ht, k⟩ := h
    refine ⟨F, A, s, hs, hR, _, ht, fun x A1 v H1 F1 p1 g1 r1 => ?_⟩
    split at p1
    case h_2 => exact p1.elim
    rename_i a
    obtain rfl := r1.str_inv
    refine ⟨⟨_, rfl⟩, F1, A1, s, hs.mono g1.ext, g1.rs, _, p1, fun y A2 v2 H2 F2 p2 g2 r2 => ?_⟩
    cases e1 : seqD A2 y with
    | none => rw [e1] at p2; exact p2.elim
    | some ds =>
      rw [e1, Option.bind_some] at p2
      cases e2 : strsD ds with
      | none => rw [e2] at p2; exact p2.elim
      | some ys =>
        rw [e2, okQ_some] at p2
        obtain ⟨q, vs, rfl, h1, h2⟩ := seq_rep g2.rs r2 e1
        obtain rfl := strs_rep h2 e2
        exact ⟨a, q, ys, rfl, rfl, h1, p2.1, k _ _ _ _ _ p2.2 (g1.trans g2) (.str _)⟩⟩
end
/-! ### order of lists -/
def ltL {α : Type} [DecidableEq α] (lt : α → α → Bool) : List α → List α → Bool
  | [], [] => false
  | [], _ :: _ => true
  | _ :: _, [] => false
  | a :: r, b :: t => if a = b then ltL lt r t else lt a b
section
variable {α : Type} [DecidableEq α] {lt : α → α → Bool}
def eAt (as bs : List α) (j : Nat) : Bool := decide (as[j]? = bs[j]?)
def rAt (lt : α → α → Bool) (as bs : List α) (j : Nat) : Bool := match as[j]?, bs[j]? with | some a, some b => lt a b | _, _ => false
theorem first_up {e r : Nat → Bool} {z : Bool} : ∀ l : List Nat, SeqAt.firstLt e r z (l.map (· + 1)) = SeqAt.firstLt (fun j => e (j + 1)) (fun j => r (j + 1)) z l
  | [] => rfl
  | j :: t => by
    rw [List.map_cons]
    unfold SeqAt.firstLt
    rw [first_up t]
theorem first_ltL : ∀ as bs : List α, SeqAt.firstLt (eAt as bs) (rAt lt as bs) (decide (as.length < bs.length)) (List.range (min as.length bs.length)) = ltL lt as bs
  | [], [] => rfl
  | [], _ :: _ => by simp [SeqAt.firstLt, ltL]
  | _ :: _, [] => by simp [SeqAt.firstLt, ltL]
  | a :: r, b :: t => by
    rw [List.length_cons, List.length_cons, Nat.succ_min_succ, List.range_succ_eq_map]
    unfold SeqAt.firstLt ltL
    by_cases h : a = b
    · rw [if_pos (show eAt (a :: r) (b :: t) 0 = true by simp [eAt, h]), if_pos h]
      rw [show (List.range (min r.length t.length)).map Nat.succ = (List.range (min r.length t.length)).map (· + 1) from rfl, first_up, ← first_ltL r t]
      rw [show decide (r.length + 1 < t.length + 1) = decide (r.length < t.length) by simp]
      congr 1
    · rw [if_neg (show ¬ eAt (a :: r) (b :: t) 0 = true by simp [eAt, h]), if_neg h]
      rfl
theorem isl {h : Heap} {a : Addr} {xs : Array Value} (p : PlainL h a xs) : h.IsList a xs := by
  obtain ⟨o, n, ho, hc, _, hd⟩ := p
  exact ⟨o, ho, hc, n, hd⟩
theorem op_ltL {X : Cx} (mk : α → V) (lt : α → α → Bool) (hE : ∀ {A : Around} {s : Shared} {a b : α} {u v : Value}, RelV (mk a) u → RelV (mk b) v → SeqAt.EqAt A s u v (decide (a = b)))
    (hL : ∀ {A : Around} {s : Shared} {a b : α} {u v : Value}, RelV (mk a) u → RelV (mk b) v → SeqAt.RcLt A s u v (lt a b)) (hu : X.A.units < cLine) :
    OpR X (compareOp .Lt) (fun x y H Q => ∃ p q, ∃ as bs : List α, x = .ref p ∧ y = .ref q ∧ SqL X.K H p (as.map mk) ∧ SqL X.K H q (bs.map mk) ∧ Q (.bl (ltL lt as bs)) H) := by
  intro pins s σ H x y v u Q I rx ry h
  obtain ⟨p, q, as, bs, rfl, rfl, ha, hb, k⟩ := h
  cases rx
  cases ry
  obtain ⟨its, r1, p1, _⟩ := I.list ha
  obtain ⟨its2, r2, p2, _⟩ := I.list hb
  have e1 : its.toArray.size = as.length := by rw [List.size_toArray, ← r1.length, List.length_map]
  have e2 : its2.toArray.size = bs.length := by rw [List.size_toArray, ← r2.length, List.length_map]
  have at1 : ∀ j (h1 : j < its.toArray.size), ∃ a, as[j]? = some a ∧ RelV (mk a) its.toArray[j] := fun j h1 => by
    have hj : j < as.length := by omega
    obtain ⟨w, h2, h3⟩ := r1.get (i := j) (x := mk as[j]) (by rw [List.getElem?_map, List.getElem?_eq_getElem hj]; rfl)
    refine ⟨as[j], List.getElem?_eq_getElem hj, ?_⟩
    obtain ⟨h4, h5⟩ := List.getElem?_eq_some_iff.mp h2
    rw [List.getElem_toArray, h5]
    exact h3
  have at2 : ∀ j (h1 : j < its2.toArray.size), ∃ a, bs[j]? = some a ∧ RelV (mk a) its2.toArray[j] := fun j h1 => by
    have hj : j < bs.length := by omega
    obtain ⟨w, h2, h3⟩ := r2.get (i := j) (x := mk bs[j]) (by rw [List.getElem?_map, List.getElem?_eq_getElem hj]; rfl)
    refine ⟨bs[j], List.getElem?_eq_getElem hj, ?_⟩
    obtain ⟨h4, h5⟩ := List.getElem?_eq_some_iff.mp h2
    rw [List.getElem_toArray, h5]
    exact h3
  have R := SeqAt.RcLt.lists (A := X.A) (s := s) (e := eAt as bs) (r := rAt lt as bs) (isl p1) (isl p2) hu (fun j h1 h2 => by
    obtain ⟨a, ea, ra⟩ := at1 j h1
    obtain ⟨b, eb, rb⟩ := at2 j h2
    rw [show eAt as bs j = decide (a = b) by unfold eAt; rw [ea, eb]; simp]
    exact hE ra rb) (fun j h1 h2 _ => by
    obtain ⟨a, ea, ra⟩ := at1 j h1
    obtain ⟨b, eb, rb⟩ := at2 j h2
    rw [show rAt lt as bs j = lt a b by unfold rAt; rw [ea, eb]]
    exact hL ra rb)
  rw [e1, e2, first_ltL] at R
  have z : wpAny (model X.prog X.w) X.A (compareOp .Lt (.ref p) (.ref q)) (EP X pins σ Q) X.xe s := R X.prog X.w X.xe (EP X pins σ Q) ⟨.bl _, H, I, rfl, k⟩
  exact z
end
theorem rc_int {A : Around} {s : Shared} {a b : Int} {u v : Value} (h1 : RelV (.int a) u) (h2 : RelV (.int b) v) : SeqAt.RcLt A s u v (decide (a < b)) := by
  obtain ⟨t, rfl⟩ := h1
  obtain ⟨t2, rfl⟩ := h2
  exact fun prog w E Q h => (PyProof.Rows.lt_int h : wpAny (model prog w) A (compareOp .Lt _ _) Q E s)
theorem rc_str {A : Around} {s : Shared} {a b : Str} {u v : Value} (h1 : RelV (.str a) u) (h2 : RelV (.str b) v) : SeqAt.RcLt A s u v (ltS a b) := by
  obtain ⟨t, rfl⟩ := h1
  obtain ⟨t2, rfl⟩ := h2
  exact fun prog w E Q h => (PySem.P.lt_str h : wpAny (model prog w) A (compareOp .Lt _ _) Q E s)
theorem eqa_int {A : Around} {s : Shared} {a b : Int} {u v : Value} (h1 : RelV (.int a) u) (h2 : RelV (.int b) v) : SeqAt.EqAt A s u v (decide (a = b)) := by
  obtain ⟨t, rfl⟩ := h1
  obtain ⟨t2, rfl⟩ := h2
  rw [show decide (a = b) = (a == b) from (Bool.beq_eq_decide_eq a b).symm]
  exact SeqAt.EqAt.int_int _ _ _ _
theorem eqa_str {A : Around} {s : Shared} {a b : Str} {u v : Value} (h1 : RelV (.str a) u) (h2 : RelV (.str b) v) : SeqAt.EqAt A s u v (decide (a = b)) := by
  obtain ⟨t, rfl⟩ := h1
  obtain ⟨t2, rfl⟩ := h2
  have := SeqAt.EqAt.str_str (A := A) (s := s) a t b t2
  rw [show decide (a = b) = (a == b) from (Bool.beq_eq_decide_eq a b).symm]
  exact this
abbrev ltI (i j : Int) : Bool := decide (i < j)
/-- lists of ints, lists of texts -/
def ltLD (xs ys : List D) : Option Bool := match intsD xs, intsD ys with
  | some ns, some ms => some (ltL ltI ns ms)
  | _, _ => match strsD xs, strsD ys with
    | some ns, some ms => some (ltL ltS ns ms)
    | _, _ => none
def qLtL : R2Q := fun x y A P => match lstD A x, lstD A y with
  | some xs, some ys => okQ (ltLD xs ys) fun b => P (.bl b) A
  | _, _ => False
section
variable {X : Cx} {T : Tz} {a b : Expr} {ta tb : TQ} {pos : Pos}
abbrev rLtLi (K : PySem.W.Frag) : R2 := fun x y H Q => ∃ p q, ∃ as bs : List Int, x = .ref p ∧ y = .ref q ∧ SqL K H p (as.map .int) ∧ SqL K H q (bs.map .int) ∧ Q (.bl (ltL ltI as bs)) H
abbrev rLtLs (K : PySem.W.Frag) : R2 := fun x y H Q => ∃ p q, ∃ as bs : List Str, x = .ref p ∧ y = .ref q ∧ SqL K H p (as.map .str) ∧ SqL K H q (bs.map .str) ∧ Q (.bl (ltL ltS as bs)) H
theorem rel_ltL {K : PySem.W.Frag} : Rel2 K T (fun x y H Q => rLtLi K x y H Q ∨ rLtLs K x y H Q) qLtL := by
  intro F A H x y xv yv P Q R rx ry h k
  unfold qLtL at h
  split at h
  case h_2 => exact h.elim
  rename_i xs ys h1 h2
  obtain ⟨p, vs, rfl, h3, h4⟩ := lst_rep R rx h1
  obtain ⟨q, ws, rfl, h5, h6⟩ := lst_rep R ry h2
  unfold ltLD at h
  split at h
  · rename_i ns ms e1 e2
    rw [okQ_some] at h
    obtain rfl := ints_rep h4 e1
    obtain rfl := ints_rep h6 e2
    exact .inl ⟨p, q, ns, ms, rfl, rfl, h3, h5, k _ _ _ _ _ h R.go (.bl _)⟩
  · split at h
    · rename_i ns ms e1 e2
      rw [okQ_some] at h
      obtain rfl := strs_rep h4 e1
      obtain rfl := strs_rep h6 e2
      exact .inr ⟨p, q, ns, ms, rfl, rfl, h3, h5, k _ _ _ _ _ h R.go (.bl _)⟩
    · exact h.elim
theorem pq_ltL (hu : X.A.units < cLine) (ha : PQ X T a ta) (hb : PQ X T b tb) : PQ X T (.Compare a [.Lt] [b] pos) (qOp qLtL ta tb) :=
  pq_cmp rel_ltL (OpR.or (op_ltL V.int ltI (fun h1 h2 => eqa_int h1 h2) (fun h1 h2 => rc_int h1 h2) hu) (op_ltL V.str ltS (fun h1 h2 => eqa_str h1 h2) (fun h1 h2 => rc_str h1 h2) hu)) ha hb (nomark _)
/-- min(i, j) -/
def rMin2Q : RNQ := fun xs A P => match xs with
  | [.int i, .int j] => P (.int (if j < i then j else i)) A
  | _ => False
theorem cq_min2 (hc : X.calm = true) : CQ X T (.builtin "min") rMin2Q := cq_of (call_min2 hc) (by
  intro F A H xs xv P Q RR rx h k
  unfold rMin2Q at h
  split at h
  · rename_i i j
    cases rx with
    | cons r1 rx =>
      cases rx with
      | cons r2 rx =>
        cases rx
        rw [r1.int_inv, r2.int_inv]
        exact ⟨i, j, rfl, k _ _ _ _ _ h RR.go (.int _)⟩
  · exact h.elim)
end
end Qd


set_option Elab.async false
set_option linter.all false
set_option maxRecDepth 100000
set_option maxHeartbeats 1000000
/-! Second layer, part R2: texts turned about. -/
namespace Qd
open PySem L2 LamX
def revS (z : Str) : Str := ⟨z.cps.toList.reverse.toArray⟩
theorem back_picks (xs : Array Nat) : ((List.range xs.size).map fun k => xs.size - 1 - k).filterMap (xs[·]?) = xs.toList.reverse := by
  have h : ((List.range xs.size).map fun k => xs.size - 1 - k) = (List.range xs.size).reverse := by
    apply List.ext_getElem
    · simp
    · intro i h1 h2
      simp
  rw [h, List.filterMap_reverse]
  congr 1
  have h2 : ∀ n, n ≤ xs.size → (List.range n).filterMap (xs[·]?) = xs.toList.take n := by
    intro n
    induction n with
    | zero => intro _; rfl
    | succ n ih =>
      intro hn
      rw [List.range_succ, List.filterMap_append, ih (by omega), List.take_succ]
      congr 1
      rw [List.filterMap_cons, List.filterMap_nil, Array.getElem?_toList]
      cases xs[n]? <;> rfl
  have := h2 xs.size (Nat.le_refl _)
  rw [this, List.take_of_length_le (by simp)]
section
variable {X : Cx} {T : Tz} {e : Expr} {te : TQ} {pos : Pos}
abbrev tRevS (te : TE) : TE := fun σ H Q => te σ H fun x H1 => ∃ z : Str, x = .str z ∧ z.length ≤ sizeLine ∧ Q (.str (revS z)) H1
theorem pe_revS {te : TE} {k : Nat} {p1 p2 p3 : Pos} (he : PE X e te) : PE X (.Subscript e (.Slice none none (some (.UnaryOp .USub (.Constant (.int 1) k p1) p2)) p3) pos) (tRevS te) := by
  refine ⟨fun pins s σ H Q I h => PyProof.Rows.Subscript_ (thn (he.run pins s σ H _ I h) fun v s1 ⟨x, H1, I1, r1, z, ex, hz, q⟩ => ?_)⟩
  subst ex
  obtain ⟨t, rfl⟩ := r1
  have back : PO X (some (.UnaryOp .USub (.Constant (.int 1) k p1) p2)) _ := po_some (pe_un un_neg pe_int)
  refine wpAny_Slice (thn (po_none.run pins s1 σ H1 (fun o G => o = none ∧ G = H1) I1 ⟨rfl, rfl⟩) fun vl s2 ⟨_, _, I2, pl, e1, e2⟩ => ?_)
  cases e1; cases e2
  refine thn (po_none.run pins s2 σ H1 (fun o G => o = none ∧ G = H1) I2 ⟨rfl, rfl⟩) fun vu s3 ⟨_, _, I3, pu, e1, e2⟩ => ?_
  cases e1; cases e2
  refine thn (back.run pins s3 σ H1 (fun o G => o = some (-1) ∧ G = H1) I3 ⟨1, rfl, -1, rfl, rfl, rfl⟩) fun vs s4 ⟨_, _, I4, ps, e1, e2⟩ => ?_
  cases e1; cases e2
  obtain ⟨l, rfl, el⟩ := IsPart.raw pl
  obtain ⟨u, rfl, eu⟩ := IsPart.raw pu
  obtain ⟨st, rfl, es⟩ := IsPart.raw ps
  refine PyProof.Rows.tail_any (ops := [.str z t, .ref s4.heap.objs.size]) (typeIs_str _ _ _) F.slot_str_getitem.lookup ?_ (by with_unfolding_all rfl)
  refine wpAny_getItem_str_slice (l := l) (u := u) (st := st) ⟨_, Heap.get?_push_size _ rfl, rfl, rfl⟩ (by rw [es]; decide) ?_
  have made : sliceMade z t l u st = .str (revS z) := by
    unfold sliceMade slicePicked
    rw [el, eu, es]
    show (if ((-1 : Int) == 1 && _) = true then _ else Made.str _) = _
    rw [if_neg (by simp)]
    congr 1
    show (⟨((sliceRange ((z.length : Int) - 1) (-1) (-1)).filterMap (z.cps[·]?)).toArray⟩ : Str) = revS z
    rw [PySem.W.krv_sliceRange]
    unfold revS
    rw [← back_picks]
    rfl
  rw [made]
  refine ⟨?_, .str _, H1, (I4.kept (t' := s4.toks) fun b ob q => Heap.get?_push_of_some _ q).tok _, ⟨_, rfl⟩, q⟩
  show (z.cps.toList.reverse.toArray).size ≤ _
  rw [List.size_toArray, List.length_reverse, Array.length_toList]
  exact hz
/-- a text turned about -/
def qRevS (te : TQ) : TQ := fun s A P => te s A fun x A1 => match x with
  | .str z => z.length ≤ 100000 ∧ P (.str (revS z)) A1
  | _ => False
theorem pq_revS {k : Nat} {p1 p2 p3 : Pos} (he : PQ X T e te) : PQ X T (.Subscript e (.Slice none none (some (.UnaryOp .USub (.Constant (.int 1) k p1) p2)) p3) pos) (qRevS te) :=
  ⟨(pe_revS he.pe).wk fun σ H Q h => by
    obtain ⟨F, A, s, hs, hR, P, ht, k⟩ := h
    refine ⟨F, A, s, hs, hR, _, ht, fun x A1 xv H1 F1 p1 g1 r1 => ?_⟩
    split at p1
    · rename_i z
      exact ⟨z, r1.str_inv, Nat.le_trans p1.1 (by decide), k _ _ _ _ _ p1.2 g1 (.str _)⟩
    · exact p1.elim⟩
end
end Qd


set_option Elab.async false
set_option linter.all false
set_option maxRecDepth 100000
set_option maxHeartbeats 2000000
/-! Second layer, part R3: a lambda of one parameter that captures nothing: made, handed on, called. -/
namespace Qd
open PySem L2 LamX PyProof.Rows
/-- how its one parameter is bound -/
def Lm.Binds1 (l : Lm) (y : Str) : Prop := ∀ (pm cdv ctv u : Value), bindArgs (PySem.W.kla_fn "<lambda>" l.q l.ps l.e l.sc [] pm cdv ctv) ⟨[u], []⟩ = pure [(y, u)]
/-- what a caller knows of a lambda -/
structure LamD (P : Program) (w : World) (K : PySem.W.Frag) (mg : Str → Option Value) (base : Heap) (k : Nat) (l : Lm) (r : RXQ) : Prop where
  is : ∃ (y : Str) (N : List Str), FnScope N [y] l.sc ∧ l.Binds1 y ∧ ∀ (f c : Addr) (A : Around) (outer : List Env) (s : Shared) (H : Hp) (E : XK) (tb : List (Addr × Str)) (x2 : XKQ), Room k (A.deeper (envOfC l.q l.sc s.heap.objs.size f (.ref c))) →
    ∃ tB, PQ (cxOf (L2.CX P w) P w K mg base N l.q l.sc f (.ref c) A outer s H E) { tb := tb, xe := E, x2 := x2 } l.e tB ∧ ∀ ds A P, r ds A P x2 → tB (startQ N ds) A P
  len : ∀ ds A P x2, r ds A P x2 → ds.length = 1
section
variable {X : Cx} {pins : List (Addr × Obj)} {σ : L2.St} {H : Hp} {s : Shared}
/-- the lambda runs -/
theorem run_lam {k : Nat} {l : Lm} {f c : Addr} {y : Str} {N : List Str} {E : XK} {tb : XK → TE} {u : Value} {v : V} {Q : VK} (S : FnScope N [y] l.sc) (hb : l.Binds1 y) (hr : Room (k + 1) X.A) (hx : Passes (L2.CX X.prog X.w) X E)
    (hbody : ∀ (A : Around) (outer : List Env) (s : Shared) (H : Hp), Room k (A.deeper (envOfC l.q l.sc s.heap.objs.size f (.ref c))) → PE (cxOf (L2.CX X.prog X.w) X.prog X.w X.K X.mg X.base N l.q l.sc f (.ref c) A outer s H E) l.e (tb E))
    (I : Inv X pins σ H s) (hf : H f = some (LamO f c l)) (hc : H c = some (CodeO c l.q)) (rv : RelV v u) (h : tb E (L2.start N [v]) H Q) : wpAny (model X.prog X.w) X.A (call (.ref f) [u]) (EP X pins σ Q) X.xe s := by
  obtain ⟨⟨pm, ctv, of1⟩, _, _⟩ := I.hok f _ hf
  obtain ⟨⟨oc, vs, t, hoc, hdc, hvc⟩, _, _⟩ := I.hok c _ hc
  have e0 := I.env0
  have rc : codeAny (model X.prog X.w) X.A (.call (.ref f) ⟨[u], []⟩) (CR (L2.CX X.prog X.w) X.stack X.prog X.w H s Q E) s := by
    refine PySem.W.kla_callFunE hr.depth of1 rfl S.co S.gen rfl ⟨c, oc, vs, t, rfl, hoc, hdc, hvc⟩ ?_
    rw [hb]
    have hkind : ∀ z ∈ [y].zip [u], l.sc.names.lookup z.1 = some .local ∨ (l.sc.names.lookup z.1 = some .cell ∧ ((cellsFrom (s.heap.objs.size + 1) l.sc.names []).lookup z.1).isSome = true) := fun ⟨n, w⟩ hz => by
      rcases S.par n (List.of_mem_zip hz).1 with q | q
      · exact .inl q
      · exact .inr ⟨q, PySem.W.cellsFrom_some _ _ _ (.inl q)⟩
    refine wpAny_pure (wpAny_newFunctionEnv_cells S.kind hkind fun env he s1 x => ?_)
    subst he
    refine ⟨I.nolimit.keeps x.toInCall.keep, ?_⟩
    have J := inv_start (CX := L2.CX X.prog X.w) (f := f) (cd := .ref c) (E := E) (vs := [v]) (us := [u]) S hr.hd e0 rfl (.cons rv .nil) x
    refine PySem.W.kla_codeExpr (wpAny_mono ((hbody _ _ s H (hr.deeper _)).run [] _ _ H Q J h) (fun v s' hq => ?_) fun e s' hq => hq)
    obtain ⟨w', H', J', rv, q⟩ := hq
    exact ⟨w', H', J'.os, J'.bare, J'.base, J'.hok, rv, q⟩
  refine wpAny_call (codeAny_mono rc fun r s' hq => ?_)
  cases r with
  | error e => exact hx pins σ H s e s' I hq
  | ok fl =>
    cases fl with
    | ret u => exact I.after hq
    | next => exact False.elim hq
    | brk => exact False.elim hq
    | cont => exact False.elim hq
/-! ### made -/
theorem clo_nil {cells : List (Str × Addr)} {names : List (Str × NameKind)} (h : ∀ y ∈ names, y.2 ≠ .free) : cloFrom cells names [] = [] := by
  cases e : cloFrom cells names [] with
  | nil => rfl
  | cons y r =>
    rcases cloFrom_mem (cells := cells) (names := names) (acc := []) (n := y.1) (c := y.2) (by rw [e]; exact List.mem_cons_self ..) with z | z
    · cases z
    · exact absurd rfl (h _ z.1)
theorem lamO_ok {P : Program} {w : World} {H : Hp} {h : Heap} {f c : Addr} {l : Lm} {pm ctv : Value} (e : h.get? f = some (PySem.W.kla_obj "<lambda>" l.q l.ps l.e l.sc [] pm c ctv)) : ObjOk P w H h f (LamO f c l) :=
  ⟨⟨pm, ctv, e⟩, ⟨_, e⟩, fun _ _ ⟨a, b, g⟩ st => ⟨a, b, st _ g⟩⟩
/-- the tables, where one has grown by a code object -/
theorem tabs_grow {tb : List (Addr × Str)} {G G' : Hp} {Pt c' : Addr} {q : Str} {ps : Array Value} {at_ : Pos} (t : Tabs tb G) (hP : G Pt = some (.tbl ps)) (ht : TriplesOk ps.toList) (hu : ∀ p ∈ tb, p.1 = Pt → p.2 = q)
    (h1 : G' Pt = some (.tbl (ps ++ #[rawInt at_.line, rawInt at_.col, .ref c']))) (h2 : G' c' = some (CodeO c' q)) (h3 : ∀ b u, b ≠ Pt → G b = some u → G' b = some u) : Tabs tb G' := fun p hp => by
  have kept : ∀ {d r}, G d = some (CodeO d r) → G' d = some (CodeO d r) := fun {d r} e => h3 _ _ (fun z => by rw [z, hP] at e; exact codeO_ne ps (Option.some.inj e).symm) e
  obtain ⟨qs, w1, w2, w3⟩ := t p hp
  by_cases same : p.1 = Pt
  · rw [same] at w1
    obtain rfl : qs = ps := by rw [hP] at w1; cases w1; rfl
    refine ⟨_, by rw [same]; exact h1, by rw [Array.toList_append]; exact PySem.TriplesOk_snoc _ _ _ _ ht, fun at2 cv hcv => ?_⟩
    rw [Array.toList_append] at hcv
    rcases among_app qs.toList ht hcv with y | y
    · obtain ⟨d, e1, e2⟩ := w3 at2 cv y
      exact ⟨d, e1, kept e2⟩
    · exact ⟨c', y, by rw [hu p hp same]; exact h2⟩
  · exact ⟨qs, h3 _ _ same w1, w2, fun at2 cv hcv => let ⟨d, e1, e2⟩ := w3 at2 cv hcv; ⟨d, e1, kept e2⟩⟩
/-- the lambda that captures nothing is made, its function object held from now on -/
theorem lam_held {tb : List (Addr × Str)} {c Pt : Addr} {params : Arguments} {body : Expr} {scope : Scope} {pos : Pos} {E : Value → Shared → Prop} {Q : Value → Shared → Prop} {l : Lm} (el : l = ⟨X.env.qual ++ "<lambda>", params, body, scope⟩)
    (I : Inv X pins σ H s) (TB : TabB X.base X.mg c Pt) (hcode : X.env.code = .ref c) (hm : (Pt, l.q) ∈ tb) (hu : ∀ p ∈ tb, p.1 = Pt → p.2 = l.q) (hT : Tabs tb H) (hdef : defaultsOf params X.env = ([], [])) (hfree : ∀ y ∈ scope.names, y.2 ≠ .free)
    (h : ∀ (f c' : Addr) (H1 : Hp) (s' : Shared), Inv X pins σ (upd H1 f (LamO f c' l)) s' → ExtN H H1 → Tabs tb H1 → H f = none → H1 f = none → H1 c' = some (CodeO c' l.q) → Q (.ref f) s') :
    wpAny (model X.prog X.w) X.A (eval (.Lambda params body scope pos) X.env) Q E s := by
  subst el
  obtain ⟨ps, tabH, trip, found⟩ := hT _ hm
  have noClo : closureFor scope X.env = pure [] := by
    rw [closure_ok fun y hy e => absurd e (hfree y hy), clo_nil hfree]
  have nsM := I.mod.glob.keeps I.bk
  have bltP : s.heap.BuiltinsAt X.mg Pt := TB.bm.keeps I.bk
  have tabS : s.heap.get? Pt = some { cls := .none, data := .fields ps } := I.hok Pt _ tabH
  refine PySem.W.kla_eval hdef ?_
  rcases hc : codeAmong pos ps.toList with _ | cv
  · refine PySem.W.kla_makeFunction (mg := X.mg) (c := c) (P := Pt) (ps := ps) noClo I.ok.glob nsM hcode (TB.code.keeps I.bk) tabS trip hc TB.gP bltP fun c' ctv g tk ext lo hi rec_ tab2 => ?_
    obtain ⟨c2, oc, vs, t, e2, r1, r2, r3⟩ := rec_
    cases e2
    have newC : H c' = none := I.hok.fresh lo
    have I0 := inv_table (t' := tk) (more := #[rawInt pos.line, rawInt pos.col, .ref c']) (h' := g) I tabH (fun b o nb e => ext b o nb e) tab2 lo ⟨oc, vs, t, r1, r2, r3⟩
    have hP2 : upd (upd H Pt (.tbl (ps ++ #[rawInt pos.line, rawInt pos.col, .ref c']))) c' (CodeO c' (X.env.qual ++ "<lambda>")) Pt = some (.tbl (ps ++ #[rawInt pos.line, rawInt pos.col, .ref c'])) := by
      rw [upd_ne (ne_of_none tabH newC), upd_same]
    have off : ∀ b u, b ≠ Pt → H b = some u → upd (upd H Pt (.tbl (ps ++ #[rawInt pos.line, rawInt pos.col, .ref c']))) c' (CodeO c' (X.env.qual ++ "<lambda>")) b = some u := fun b u nb e => by
      rw [upd_ne (ne_of_none e newC), upd_ne nb]; exact e
    have I1 := I0.laid (a := g.objs.size) (o := LamO g.objs.size c' ⟨X.env.qual ++ "<lambda>", params, body, scope⟩) (t' := tk) (h' := g.push (PySem.W.kla_obj "<lambda>" (X.env.qual ++ "<lambda>") params body scope [] ((X.mg "__name__").getD .none) c' ctv))
      (fun b u e => Heap.get?_push_of_some _ e) (Nat.le_refl _) (lamO_ok (Heap.get?_push_size _ rfl))
    exact h _ c' _ _ I1 (fun b u e n => off b u (fun z => n ps (by rw [z, tabH] at e; exact (Option.some.inj e).symm)) e) (tabs_grow hT tabH trip hu hP2 upd_same off) (I.hok.fresh (Nat.le_trans lo (Nat.le_of_lt hi))) (I0.hok.fresh (Nat.le_refl _)) upd_same
  · obtain ⟨c', rfl, hco⟩ := found pos cv hc
    refine PySem.W.kla_makeFunctionHit (mg := X.mg) (c := c) (P := Pt) (ps := ps) noClo I.ok.glob nsM hcode (TB.code.keeps I.bk) tabS trip hc bltP fun ctv g tk ext lo => ?_
    have I1 := I.laid (a := g.objs.size) (o := LamO g.objs.size c' ⟨X.env.qual ++ "<lambda>", params, body, scope⟩) (t' := tk) (h' := g.push (PySem.W.kla_obj "<lambda>" (X.env.qual ++ "<lambda>") params body scope [] ((X.mg "__name__").getD .none) c' ctv))
      (fun b u e => Heap.get?_push_of_some _ (ext b u e)) lo (lamO_ok (Heap.get?_push_size _ rfl))
    exact h _ c' _ _ I1 (ExtN.refl H) hT (I.hok.fresh lo) (I.hok.fresh lo) hco
end
section
variable {X : Cx} {T : Tz} {pos : Pos}
/-- a lambda that captures nothing, as a value -/
theorem pq_lam {c Pt : Addr} {params : Arguments} {body : Expr} {scope : Scope} {q : Str} (TB : TabB X.base X.mg c Pt) (hcode : X.env.code = .ref c) (hm : (Pt, q) ∈ T.tb) (hu : ∀ p ∈ T.tb, p.1 = Pt → p.2 = q) (hfree : (scope.names.all fun y => !decide (y.2 = .free)) = true) (hq : X.env.qual ++ "<lambda>" = q := by rfl)
    (hdef : defaultsOf params X.env = ([], []) := by rfl) : PQ X T (.Lambda params body scope pos) (qC (.lam ⟨q, params, body, scope⟩)) := by
  subst hq
  refine ⟨⟨fun pins s σ H Q I h => ?_⟩⟩
  obtain ⟨F, A, sl, hs, hR, P, ht, k⟩ := h
  have hfree' : ∀ y ∈ scope.names, y.2 ≠ .free := fun y hy e => by
    have := List.all_eq_true.mp hfree y hy
    rw [e] at this; cases this
  refine lam_held (l := ⟨X.env.qual ++ "<lambda>", params, body, scope⟩) rfl I TB hcode hm hu hR.tab hdef hfree' fun f c' H1 s' I1 eN tN nf nf1 hco => ?_
  have g := ext_go hR.r0 eN tN
  have hA : A c' = none := (hR.r0.free nf).2 |> fun _ => by
    cases e : A c' with
    | none => rfl
    | some o =>
      obtain ⟨u, hu, wu, _⟩ := (g.rs.mem c' o e).2.there
      rw [hco] at hu; cases hu; exact absurd wu notWr_code
  obtain ⟨g2, e2⟩ := g.hold (p := c') hA hco notWr_code trivial
  have g3 := g2.trans (g2.rs.goF (p := f) (u := LamO f c' ⟨X.env.qual ++ "<lambda>", params, body, scope⟩) nf1 trivial)
  refine ⟨.ref f, _, I1, rfl, k _ _ _ _ _ ht (hR.to g3) (.lam upd_same ?_)⟩
  have ne : c' ≠ f := ne_of_none hco nf1
  rw [upd_ne ne, upd_same]
/-! ### called -/
/-- x(e), x a name whose value is a lambda -/
def qAsk (P : Program) (w : World) (K : PySem.W.Frag) (mg : Str → Option Value) (base : Heap) (k i : Nat) (x2 : XKQ) (te : TQ) : TQ := fun s A Q => match s[i]? with
  | some (some (.lam l)) => te s A fun d A1 => ∃ rl, LamD P w K mg base k l rl ∧ rl [d] A1 Q x2
  | _ => False
theorem pq_ask {P1 : Program} {w1 : World} {K1 : PySem.W.Frag} {mg1 : Str → Option Value} {base1 : Heap} {k i : Nat} {x : Str} {p : Pos} {e : Expr} {te : TQ} {x2 : XKQ} (hN : X.N[i]? = some x) (hv : Vis X.env.scope x) (hr : Room (k + 1) X.A) (hx : Passes (L2.CX X.prog X.w) X T.xe) (he : PQ X T e te) (h2 : T.x2 = x2 := by rfl) (hE : X.prog = P1 ∧ X.w = w1 ∧ X.K = K1 ∧ X.mg = mg1 ∧ X.base = base1 := by exact ⟨rfl, rfl, rfl, rfl, rfl⟩) (hd : (x == ("__debug__" : Str)) = false := by decide) (hcd : (x == ("__classdict__" : Str)) = false := by decide)
    (hst : starEach [e] X.env = (false, eval e X.env) :: starEach [] X.env := by rfl) (hpl : (backTo pos (starEach [] X.env)).any (·.1) = false := by rfl) : PQ X T (.Call (.Name x p) [e] [] pos) (qAsk P1 w1 K1 mg1 base1 k i x2 te) := by
  subst h2
  obtain ⟨rfl, rfl, rfl, rfl, rfl⟩ := hE
  refine ⟨⟨fun pins s σ H Q I h => ?_⟩⟩
  obtain ⟨F, A, sl, hs, hR, P0, ht, kk⟩ := h
  unfold qAsk at ht
  split at ht
  case h_2 => exact ht.elim
  rename_i l hsl
  obtain ⟨v, e1, r1⟩ := hs.get hsl
  cases r1 with
  | @lam f c _ hf hc =>
    refine wpAny_Call_Name_kw (thn ((pe_var (pos := p) (i := i) hN hv hd hcd).run pins s σ H (fun v H1 => v = .ref f ∧ H1 = H) I ⟨.ref f, e1, rfl, rfl⟩) fun u s1 ⟨v, H1, I1, ru, ev, eH⟩ => ?_)
    subst ev eH
    obtain rfl : u = Value.ref f := ru
    obtain ⟨⟨pm0, ctv0, of0⟩, _, _⟩ := I1.hok f _ (hR.sub _ _ hf)
    refine PySem.W.callWith_F ⟨_, _, _, _, of0⟩ (thn ((paq_cons he paq_nil hst).pa.run pos pins s1 σ H1 (fun vs H2 => ∃ F2 A2 d v, vs = [v] ∧ Rep X.K F2 v d ∧ Go X.K T F A H1 F2 A2 H2 ∧ ∃ rl, LamD X.prog X.w X.K X.mg X.base k l rl ∧ rl [d] A2 P0 T.x2) I1
      ⟨F, A, sl, hs, hR, (fun ds A1 => match ds with | [d] => ∃ rl, LamD X.prog X.w X.K X.mg X.base k l rl ∧ rl [d] A1 P0 T.x2 | _ => False), ht, fun ds A' vs H' F' q g rr => ?_⟩) fun us s2 ⟨vs, H2, I2, rv, F2, A2, d, v, evs, rd, g, rl, LD, q⟩ => ?_) hst hpl
    · match ds, q, rr with
      | [d], q, rr =>
        obtain ⟨v, rfl, r⟩ := reps1 rr
        exact ⟨F', A', d, v, rfl, r, g, q⟩
    subst evs
    have hf2 := g.rs.sub _ _ (g.ext _ _ hf)
    have hc2 := g.rs.sub _ _ (g.ext _ _ hc)
    obtain ⟨⟨pm1, ctv1, of1⟩, _, _⟩ := I2.hok f _ hf2
    refine ⟨⟨_, _, _, _, of1⟩, ?_⟩
    cases rv with
    | @cons _ u _ us ru ru2 =>
      cases ru2
      obtain ⟨y, N, S, hb, hbody⟩ := LD.is
      show wpAny _ _ (call (.ref f) [u]) _ _ _
      refine run_lam (k := k) (E := T.xe) (v := v) (tb := fun E σ H Q => ∃ F A ds, Rs X.K F (startQ N ds) σ ∧ RS X.K { tb := T.tb, xe := E, x2 := T.x2 } F A H ∧ ∃ P : KQ, rl ds A P T.x2 ∧ ∀ d A' v H' F', P d A' → Go X.K { tb := T.tb, xe := E, x2 := T.x2 } F A H F' A' H' → Rep X.K F' v d → Q v H') S hb hr hx (fun A outer s H hr2 => ?_) I2 hf2 hc2 ru ?_
      · obtain ⟨tB, hB, hq⟩ := hbody f c A outer s H T.xe T.tb T.x2 hr2
        exact hB.pe.wk fun σ H Q ⟨F, A, ds, h1, h2, P, h3, h4⟩ => ⟨F, A, _, h1, h2, P, hq _ _ _ h3, h4⟩
      · refine ⟨F2, A2, [d], start_rep (.cons rd .nil), ⟨g.rs.r0, trivial, g.rs.xr.2⟩, P0, q, fun d' A' v' H' F' p g2 r => kk _ _ _ _ _ p (g.trans (g.rs.to g2.g0)) r⟩
/-! ### a def whose tables are told -/
structure DefT (P : Program) (w : World) (K : PySem.W.Frag) (mg : Str → Option Value) (base : Heap) (k : Nat) (x : Str) (ar : Arguments) (ps : List Str) (tb : List (Addr × Str)) (r : RNQ) : Prop where
  is : ∃ f fd, FnOk P w K mg base CX0 k f fd ps (liftSpT K tb r) ∧ mg x = some (.ref f) ∧ PySem.W.keepIn K (.ref f) = true ∧ Binds K fd ps [] ∧ IsFn fd ar
theorem pq_fnT {k : Nat} {ar : Arguments} {ps : List Str} {r : RNQ} {x : Str} {p : Pos} {e : Expr} {es : List Expr} {t : TAQ} {tb : List (Addr × Str)} (G : DefT X.prog X.w X.K X.mg X.base k x ar ps tb r) (hr : Room k X.A) (ha : PAQ X T (e :: es) t) (hT : T.tb = tb := by rfl) (hg : Gl X x := by rfl) (hdb : (x == ("__debug__" : Str)) = false := by decide)
    (he : starEach (e :: es) X.env = (false, eval e X.env) :: starEach es X.env := by rfl) (hpl : (backTo pos (starEach es X.env)).any (·.1) = false := by rfl) : PQ X T (.Call (.Name x p) (e :: es) [] pos) (qCB r t) := by
  subst hT
  obtain ⟨f, fd, F, hm, hk, hb, _⟩ := G.is
  refine ⟨(pe_call F hr hg hm hk hb .nil pass0 ha.pa hdb he hpl).wk fun σ H Q h => ?_⟩
  obtain ⟨F, A, s, hs, hR, P, ht, k⟩ := h
  refine ⟨F, A, s, hs, hR, _, ht, fun ds A1 vs H1 F1 p1 g1 r1 => ?_⟩
  show liftSpT X.K T.tb r (vs ++ []) H1 Q E0
  rw [List.append_nil]
  exact ⟨F1, A1, ds, r1, g1.rs.r0, P, p1, fun d A' v H' F' p g r => k _ _ _ _ _ p (g1.trans (g1.rs.to g)) r⟩
end
/-- a def that makes lambdas: its code object, its table -/
structure MkAt (K : PySem.W.Frag) (mg : Str → Option Value) (base : Heap) (x : Str) (st : Stmt) (Pt : Addr) : Prop where
  is : ∃ (f : Addr) (oc : Value) (od an : Option Addr) (osl : Array (Option Value)) (kV doc pm ct : Value) (c : Addr), K.lookup f = some ⟨oc, od, .func (PySem.W.fnOf x x (defArgs st) (defBody st) (defScope st) .none kV doc pm an (.ref c) ct), osl⟩ ∧
    PySem.W.codeIn K (.ref c) x = true ∧ TabB base mg c Pt ∧ mg x = some (.ref f) ∧ PySem.W.keepIn K (.ref f) = true
theorem mkDefT {P : Program} {w : World} {K : PySem.W.Frag} {mg : Str → Option Value} {base : Heap} {k : Nat} {x : Str} {st : Stmt} {ps : List Str} {tb : List (Addr × Str)} {Pt : Addr} {r : RNQ} (h : MkAt K mg base x st Pt)
    (hF : ∃ f fd, Fun K x x st f fd ∧ mg x = some (.ref f))
    (hok : ∀ (f : Addr) (oc : Value) (od an : Option Addr) (osl : Array (Option Value)) (kV doc pm ct : Value) (c : Addr), K.lookup f = some ⟨oc, od, .func (PySem.W.fnOf x x (defArgs st) (defBody st) (defScope st) .none kV doc pm an (.ref c) ct), osl⟩ → PySem.W.codeIn K (.ref c) x = true → TabB base mg c Pt →
      FnOk P w K mg base CX0 k f (PySem.W.fnOf x x (defArgs st) (defBody st) (defScope st) .none kV doc pm an (.ref c) ct) ps (liftSpT K tb r))
    (hb : ∀ (kV doc pm : Value) (an : Option Addr) (cdv ct : Value) (us : List Value), us.length = ps.length → bindArgs (PySem.W.fnOf x x (defArgs st) (defBody st) (defScope st) .none kV doc pm an cdv ct) ⟨us, []⟩ = pure (ps.zip us)) :
    DefT P w K mg base k x (defArgs st) ps tb r := by
  obtain ⟨f, oc, od, an, osl, kV, doc, pm, ct, c, lk, hcd, TB, hm, hk⟩ := h.is
  obtain ⟨f2, fd, F, hm2⟩ := hF
  obtain rfl : f2 = f := by rw [hm] at hm2; cases hm2; rfl
  obtain ⟨oc2, od2, kV2, doc2, pm2, an2, cdv2, ct2, osl2, rfl, lk2, hc2⟩ := F.ex
  rw [lk] at lk2
  cases lk2
  exact ⟨_, _, hok f2 oc od an osl kV doc pm ct c lk hcd TB, hm, hk, F.binds hb, ⟨_, _, _, _, _, _, _, _, _, _, rfl⟩⟩
end Qd


set_option Elab.async false
set_option linter.all false
set_option maxRecDepth 100000
set_option maxHeartbeats 2000000
/-! Second layer, part R4: facts of the head by names: errors without fields, which error a clause takes, defs that make lambdas. -/
namespace Qd
open PySem L2
/-- an own error class without fields of its own -/
def err0B (K : PySem.W.Frag) (x : Str) : Bool := PySem.W.excIn K (He.ga K x) He.veBase "ValueError.__new__" && (decide (PySem.W.nsIn K mainGlobals x = some (some (.ref (He.ga K x)))) && (PySem.W.keepIn K (.ref (He.ga K x)) &&
  (decide (PySem.W.subIn K (.ref (He.ga K x)) (.type "BaseException") = some true) && decide (PySem.W.typeIn K (.ref (He.ga K x)) = some (.type "type")))))
theorem err0_of {K : PySem.W.Frag} {h : Heap} {mg : Str → Option Value} {x : Str} (X : K.In h) (G : h.Ns mainGlobals mg) (e : err0B K x = true) : Err0 K mg x (He.ga K x) := by
  unfold err0B at e
  rw [Bool.and_eq_true, Bool.and_eq_true, Bool.and_eq_true, Bool.and_eq_true] at e
  exact ⟨e.1, PySem.W.mg_of X G (of_decide_eq_true e.2.1), e.2.2.1, of_decide_eq_true e.2.2.2.1, of_decide_eq_true e.2.2.2.2⟩
/-- the clause of class y takes an error of class x: b -/
def exB (K : PySem.W.Frag) (x y : Str) (b : Bool) : Bool := decide (PySem.W.exmOne K (.ref (He.ga K x)) (.ref (He.ga K y)) = some b)
/-- the tables of two defs are two -/
def neT (K : PySem.W.Frag) (x y : Str) : Bool := decide ((He.cT K (x, none)).2 ≠ (He.cT K (y, none)).2)
theorem mkAt_of {K : PySem.W.Frag} {h : Heap} {mg : Str → Option Value} {base : Heap} {n : Str} {st : Stmt} {f : Addr} {fd : FuncData} (X : K.In h) (G : h.Ns mainGlobals mg) (F : Fun K n n st f fd) (hm : mg n = some (.ref f)) (hg : (He.Fa.glo n).ok K = true)
    (TB : LamX.TabB base mg (He.cT K (n, none)).1 (He.cT K (n, none)).2) : MkAt K mg base n st (He.cT K (n, none)).2 := by
  obtain ⟨oc, od, kV, doc, pm, an, cdv, ct, osl, rfl, lk, hcd⟩ := F.ex
  obtain ⟨cc, rfl⟩ := He.codeIn_ref hcd
  have ef : f = He.fAd K (n, none) := by
    have e2 := He.glo_ok X G (x := n) hg
    rw [hm] at e2
    cases e2; rfl
  have ec : (He.cT K (n, none)).1 = cc := He.codeOf_eq (by rw [← ef]; exact lk) rfl
  rw [ec] at TB
  exact ⟨f, oc, od, an, osl, kV, doc, pm, ct, cc, lk, hcd, TB, hm, F.kp⟩
end Qd


set_option Elab.async false
set_option linter.all false
set_option maxRecDepth 100000
set_option maxHeartbeats 4000000
namespace K66
open PySem L2 Qd
local macro_rules | `(tactic| walk_at "rd") => `(tactic| simp only [qVar_z, qVar_s, qC, qSeq, qNext, qRet, qRetN, qIfS, qTest, qIs, qOp, qUn, qAnd, qOr, qNot, qAndV, qOrV, qNotV, qCB, qCons, qNil, okQ_some, okQ_none, qIf, qChain, qI, qIC, r1_rd, r2_rd, Qd.rLen, qLc, qIt, rAllQ, rAnyQ, rSumQ, rMinQ, rMaxQ, rAbsQ, rIntQ, newL_f, newL_t, Bool.false_eq_true, if_false, qInS, qEq, qNe, qIsN, qNotN, qDrop, if_true, qDcB, qFill, kkB, qDGet, kkK, qDcK, qFzD, qAsg, tset_nm, tset_tp, tsets_nil, tsets_nm, tsets_tp, wipe_nil, wipe_cons, List.set_cons_zero, List.set_cons_succ, qRaise, qFor, qRng1, qRng2, qTup, qLst, qPar, eqD_int, eqD_str, eqD_bl, itD_lst, itD_tup, itD_dic, lenD_lst, lenD_tup, lenD_dic, dicD_dic, lstD_lst, seqD_lst, seqD_tup, qSl, qoNone, qoSome, qRevL, qLrg1, qLrg2, qCX, qKw, qKwX, List.length_cons, List.length_nil, List.map_cons, List.map_nil, qAsgG, gTupQ, gConsQ, gSubT, gNilQ, qTGet, qDcT, kkT, qNewT, qNewK, List.length_map, Int.toNat_natCast, ditD_mut, qIx_tup, qIx_lst, keysT_2, Bool.or_true, Bool.true_or, Int.zero_add, isN_tup, isN_lst, isN_int, isN_dic, isN_non, at_zero, qMeth, qAddL, qMulL, rTupQ, qCBw, qLX, qLKw, qMet, pick_0, pick_10, qFz, qFzN, qDispF, qNewF, qDictF, qpCons, qpNil, qDispB, qDispT, keyPs, obD, qEqV, gSubQ, qNegI, qMets, at4_0, at4_1, at4_2, at4_3, ix4_1, ix4_2, ix4_3])
local macro_rules | `(tactic| walk_at "rs") => `(tactic| simp only [qVar_z, qVar_s, qC, qNext, qRet, qRetN, qIfS, qTest, qIs, qOp, qUn, qAnd, qOr, qNot, qAndV, qOrV, qNotV, qCB, qCons, qNil, okQ_some, okQ_none, qIf, qChain, qI, qIC, r1_rd, r2_rd, Qd.rLen, qLc, qIt, rAllQ, rAnyQ, rSumQ, rMinQ, rMaxQ, rAbsQ, rIntQ, newL_f, newL_t, Bool.false_eq_true, if_false, qInS, qEq, qNe, qIsN, qNotN, qDrop, if_true, qDcB, qFill, kkB, qDGet, kkK, qDcK, qFzD, qAsg, tset_nm, tset_tp, tsets_nil, tsets_nm, tsets_tp, wipe_nil, wipe_cons, List.set_cons_zero, List.set_cons_succ, qRaise, qFor, qRng1, qRng2, qTup, qLst, qPar, eqD_int, eqD_str, eqD_bl, itD_lst, itD_tup, itD_dic, lenD_lst, lenD_tup, lenD_dic, dicD_dic, lstD_lst, seqD_lst, seqD_tup, qSl, qoNone, qoSome, qRevL, qLrg1, qLrg2, qCX, qKw, qKwX, List.length_cons, List.length_nil, List.map_cons, List.map_nil, qAsgG, gTupQ, gConsQ, gSubT, gNilQ, qTGet, qDcT, kkT, qNewT, qNewK, List.length_map, Int.toNat_natCast, ditD_mut, qIx_tup, qIx_lst, keysT_2, Bool.or_true, Bool.true_or, Int.zero_add, isN_tup, isN_lst, isN_int, isN_dic, isN_non, at_zero, qMeth, qAddL, qMulL, rTupQ, qCBw, qLX, qLKw, qMet, pick_0, pick_10, qFz, qFzN, qDispF, qNewF, qDictF, qpCons, qpNil, qDispB, qDispT, keyPs, obD, qEqV, gSubQ, qNegI, qMets, at4_0, at4_1, at4_2, at4_3, ix4_1, ix4_2, ix4_3])
def top (i : Nat) : Stmt := PySem.Challenge.pw_denserows_k66_whole_ordered_or_two.main.body.getD i (.Pass ⟨0, 0, 0, 0⟩)
abbrev s_is_list : Stmt := top 1
theorem sc_is_list : FnScope ["thing"] ["thing"] (defScope s_is_list) := ⟨rfl, rfl, rfl, by decide +kernel, rfl, by decide +kernel, by decide +kernel⟩
abbrev s_is_whole : Stmt := top 2
theorem sc_is_whole : FnScope ["thing"] ["thing"] (defScope s_is_whole) := ⟨rfl, rfl, rfl, by decide +kernel, rfl, by decide +kernel, by decide +kernel⟩
abbrev s_is_bits : Stmt := top 10
theorem sc_is_bits : FnScope ["thing", "sign"] ["thing"] (defScope s_is_bits) := ⟨rfl, rfl, rfl, by decide +kernel, rfl, by decide +kernel, by decide +kernel⟩
abbrev s_is_symbol : Stmt := top 11
theorem sc_is_symbol : FnScope ["thing", "sign"] ["thing"] (defScope s_is_symbol) := ⟨rfl, rfl, rfl, by decide +kernel, rfl, by decide +kernel, by decide +kernel⟩
abbrev s_are_symbols : Stmt := top 12
theorem sc_are_symbols : FnScope ["things", "one"] ["things"] (defScope s_are_symbols) := ⟨rfl, rfl, rfl, by decide +kernel, rfl, by decide +kernel, by decide +kernel⟩
abbrev s_kept_code : Stmt := top 13
theorem sc_kept_code : FnScope ["thing", "one", "found"] ["thing"] (defScope s_kept_code) := ⟨rfl, rfl, rfl, by decide +kernel, rfl, by decide +kernel, by decide +kernel⟩
abbrev s_need_code : Stmt := top 14
theorem sc_need_code : FnScope ["code", "kept"] ["code"] (defScope s_need_code) := ⟨rfl, rfl, rfl, by decide +kernel, rfl, by decide +kernel, by decide +kernel⟩
abbrev s_is_symbol_of : Stmt := top 15
theorem sc_is_symbol_of : FnScope ["code", "thing"] ["code", "thing"] (defScope s_is_symbol_of) := ⟨rfl, rfl, rfl, by decide +kernel, rfl, by decide +kernel, by decide +kernel⟩
abbrev s_are_rows_of : Stmt := top 16
theorem sc_are_rows_of : FnScope ["code", "thing", "one"] ["code", "thing"] (defScope s_are_rows_of) := ⟨rfl, rfl, rfl, by decide +kernel, rfl, by decide +kernel, by decide +kernel⟩
abbrev s_bits_of : Stmt := top 17
theorem sc_bits_of : FnScope ["code", "symbols", "one"] ["code", "symbols"] (defScope s_bits_of) := ⟨rfl, rfl, rfl, by decide +kernel, rfl, by decide +kernel, by decide +kernel⟩
abbrev s_written_bits : Stmt := top 18
theorem sc_written_bits : FnScope ["code", "symbols", "kept"] ["code", "symbols"] (defScope s_written_bits) := ⟨rfl, rfl, rfl, by decide +kernel, rfl, by decide +kernel, by decide +kernel⟩
abbrev s_first_two : Stmt := top 19
theorem sc_first_two : FnScope ["code", "one", "other"] ["code"] (defScope s_first_two) := ⟨rfl, rfl, rfl, by decide +kernel, rfl, by decide +kernel, by decide +kernel⟩
abbrev s_need_prefix : Stmt := top 21
theorem sc_need_prefix : FnScope ["code", "kept"] ["code"] (defScope s_need_prefix) := ⟨rfl, rfl, rfl, by decide +kernel, rfl, by decide +kernel, by decide +kernel⟩
abbrev s_ordered_or_two : Stmt := top 23
theorem sc_ordered_or_two : FnScope ["code", "kept", "symbols", "one", "other"] ["code"] (defScope s_ordered_or_two) := ⟨rfl, rfl, rfl, by decide +kernel, rfl, by decide +kernel, by decide +kernel⟩
abbrev s__law_stream : Stmt := top 25
theorem sc__law_stream : FnScope ["script"] ["script"] (defScope s__law_stream) := ⟨rfl, rfl, rfl, by decide +kernel, rfl, by decide +kernel, by decide +kernel⟩
abbrev s__law_draw : Stmt := top 26
theorem sc__law_draw : FnScope ["stream", "many", "cell", "digit", "mixed"] ["stream", "many"] (defScope s__law_draw) := ⟨rfl, rfl, rfl, by decide +kernel, rfl, by decide +kernel, by decide +kernel⟩
abbrev s__law_pick : Stmt := top 27
theorem sc__law_pick : FnScope ["stream", "things"] ["stream", "things"] (defScope s__law_pick) := ⟨rfl, rfl, rfl, by decide +kernel, rfl, by decide +kernel, by decide +kernel⟩
abbrev s__law_mixed : Stmt := top 28
theorem sc__law_mixed : FnScope ["stream", "things", "left", "found", "k"] ["stream", "things"] (defScope s__law_mixed) := ⟨rfl, rfl, rfl, by decide +kernel, rfl, by decide +kernel, by decide +kernel⟩
abbrev s__law_same : Stmt := top 29
theorem sc__law_same : FnScope ["found", "due", "mine", "theirs"] ["found", "due"] (defScope s__law_same) := ⟨rfl, rfl, rfl, by decide +kernel, rfl, by decide +kernel, by decide +kernel⟩
abbrev s__law_is_very : Stmt := top 30
theorem sc__law_is_very : FnScope ["word", "ask", "odd", "found"] ["word", "ask"] (defScope s__law_is_very) := ⟨rfl, rfl, rfl, by decide +kernel, rfl, by decide +kernel, by decide +kernel⟩
abbrev s__law_e_symbols : Stmt := top 31
theorem sc__law_e_symbols : FnScope ["stream", "many", "k"] ["stream", "many"] (defScope s__law_e_symbols) := ⟨rfl, rfl, rfl, by decide +kernel, rfl, by decide +kernel, by decide +kernel⟩
abbrev s__law_e_words : Stmt := top 32
theorem sc__law_e_words : FnScope ["stream", "many", "found", "at"] ["stream", "many"] (defScope s__law_e_words) := ⟨rfl, rfl, rfl, by decide +kernel, rfl, by decide +kernel, by decide +kernel⟩
abbrev s__law_e_prefix : Stmt := top 33
theorem sc__law_e_prefix : FnScope ["stream", "many", "words"] ["stream", "many"] (defScope s__law_e_prefix) := ⟨rfl, rfl, rfl, by decide +kernel, rfl, by decide +kernel, by decide +kernel⟩
abbrev s__law_e_code : Stmt := top 34
theorem sc__law_e_code : FnScope ["stream", "most", "many", "way", "code", "symbol", "words", "word", "k"] ["stream", "most"] (defScope s__law_e_code) := ⟨rfl, rfl, rfl, by decide +kernel, rfl, by decide +kernel, by decide +kernel⟩
abbrev s__law_e_shuffled : Stmt := top 35
theorem sc__law_e_shuffled : FnScope ["stream", "thing", "key"] ["stream", "thing"] (defScope s__law_e_shuffled) := ⟨rfl, rfl, rfl, by decide +kernel, rfl, by decide +kernel, by decide +kernel⟩
abbrev s__law_e_odd_codes : Stmt := top 36
theorem sc__law_e_odd_codes : FnScope ["odds"] [] (defScope s__law_e_odd_codes) := ⟨rfl, rfl, rfl, by decide +kernel, rfl, by decide +kernel, by decide +kernel⟩
abbrev s__law_e_is_prefix : Stmt := top 37
theorem sc__law_e_is_prefix : FnScope ["code", "words", "one", "other"] ["code"] (defScope s__law_e_is_prefix) := ⟨rfl, rfl, rfl, by decide +kernel, rfl, by decide +kernel, by decide +kernel⟩
abbrev s__law_met : Stmt := top 38
theorem sc__law_met : FnScope ["ask", "e"] ["ask"] (defScope s__law_met) := ⟨rfl, rfl, rfl, by decide +kernel, rfl, by decide +kernel, by decide +kernel⟩
abbrev s_law : Stmt := top 39
theorem sc_law : FnScope ["script", "stream", "turn", "code", "symbols", "way", "words", "one", "at", "handed", "was", "due", "other", "k", "rows", "j", "place", "few", "bits", "row", "odd", "found"] ["script"] (defScope s_law) := ⟨rfl, rfl, rfl, by decide +kernel, rfl, by decide +kernel, by decide +kernel⟩
structure Nv (K : PySem.W.Frag) (mg : Str → Option Value) : Prop where
  b_abs : mg "abs" = none
  b_all : mg "all" = none
  b_any : mg "any" = none
  b_bool : mg "bool" = none
  b_dict : mg "dict" = none
  b_int : mg "int" = none
  b_isinstance : mg "isinstance" = none
  b_len : mg "len" = none
  b_list : mg "list" = none
  b_min : mg "min" = none
  b_range : mg "range" = none
  b_sorted : mg "sorted" = none
  b_str : mg "str" = none
  b_tuple : mg "tuple" = none
  b_zip : mg "zip" = none
  g_LETTERS : ∃ t, mg "LETTERS" = some (.str "abcdefghijklmnopqrstuvwxyz" t)
  f_is_list : ∃ f fd, Fun K "is_list" "is_list" s_is_list f fd ∧ mg "is_list" = some (.ref f)
  f_is_whole : ∃ f fd, Fun K "is_whole" "is_whole" s_is_whole f fd ∧ mg "is_whole" = some (.ref f)
  f_is_bits : ∃ f fd, Fun K "is_bits" "is_bits" s_is_bits f fd ∧ mg "is_bits" = some (.ref f)
  f_is_symbol : ∃ f fd, Fun K "is_symbol" "is_symbol" s_is_symbol f fd ∧ mg "is_symbol" = some (.ref f)
  f_are_symbols : ∃ f fd, Fun K "are_symbols" "are_symbols" s_are_symbols f fd ∧ mg "are_symbols" = some (.ref f)
  f_kept_code : ∃ f fd, Fun K "kept_code" "kept_code" s_kept_code f fd ∧ mg "kept_code" = some (.ref f)
  f_need_code : ∃ f fd, Fun K "need_code" "need_code" s_need_code f fd ∧ mg "need_code" = some (.ref f)
  f_is_symbol_of : ∃ f fd, Fun K "is_symbol_of" "is_symbol_of" s_is_symbol_of f fd ∧ mg "is_symbol_of" = some (.ref f)
  f_are_rows_of : ∃ f fd, Fun K "are_rows_of" "are_rows_of" s_are_rows_of f fd ∧ mg "are_rows_of" = some (.ref f)
  f_bits_of : ∃ f fd, Fun K "bits_of" "bits_of" s_bits_of f fd ∧ mg "bits_of" = some (.ref f)
  f_written_bits : ∃ f fd, Fun K "written_bits" "written_bits" s_written_bits f fd ∧ mg "written_bits" = some (.ref f)
  f_first_two : ∃ f fd, Fun K "first_two" "first_two" s_first_two f fd ∧ mg "first_two" = some (.ref f)
  f_need_prefix : ∃ f fd, Fun K "need_prefix" "need_prefix" s_need_prefix f fd ∧ mg "need_prefix" = some (.ref f)
  f_ordered_or_two : ∃ f fd, Fun K "ordered_or_two" "ordered_or_two" s_ordered_or_two f fd ∧ mg "ordered_or_two" = some (.ref f)
  f__law_stream : ∃ f fd, Fun K "_law_stream" "_law_stream" s__law_stream f fd ∧ mg "_law_stream" = some (.ref f)
  f__law_draw : ∃ f fd, Fun K "_law_draw" "_law_draw" s__law_draw f fd ∧ mg "_law_draw" = some (.ref f)
  f__law_pick : ∃ f fd, Fun K "_law_pick" "_law_pick" s__law_pick f fd ∧ mg "_law_pick" = some (.ref f)
  f__law_mixed : ∃ f fd, Fun K "_law_mixed" "_law_mixed" s__law_mixed f fd ∧ mg "_law_mixed" = some (.ref f)
  f__law_same : ∃ f fd, Fun K "_law_same" "_law_same" s__law_same f fd ∧ mg "_law_same" = some (.ref f)
  f__law_is_very : ∃ f fd, Fun K "_law_is_very" "_law_is_very" s__law_is_very f fd ∧ mg "_law_is_very" = some (.ref f)
  f__law_e_symbols : ∃ f fd, Fun K "_law_e_symbols" "_law_e_symbols" s__law_e_symbols f fd ∧ mg "_law_e_symbols" = some (.ref f)
  f__law_e_words : ∃ f fd, Fun K "_law_e_words" "_law_e_words" s__law_e_words f fd ∧ mg "_law_e_words" = some (.ref f)
  f__law_e_prefix : ∃ f fd, Fun K "_law_e_prefix" "_law_e_prefix" s__law_e_prefix f fd ∧ mg "_law_e_prefix" = some (.ref f)
  f__law_e_code : ∃ f fd, Fun K "_law_e_code" "_law_e_code" s__law_e_code f fd ∧ mg "_law_e_code" = some (.ref f)
  f__law_e_shuffled : ∃ f fd, Fun K "_law_e_shuffled" "_law_e_shuffled" s__law_e_shuffled f fd ∧ mg "_law_e_shuffled" = some (.ref f)
  f__law_e_odd_codes : ∃ f fd, Fun K "_law_e_odd_codes" "_law_e_odd_codes" s__law_e_odd_codes f fd ∧ mg "_law_e_odd_codes" = some (.ref f)
  f__law_e_is_prefix : ∃ f fd, Fun K "_law_e_is_prefix" "_law_e_is_prefix" s__law_e_is_prefix f fd ∧ mg "_law_e_is_prefix" = some (.ref f)
  f__law_met : ∃ f fd, Fun K "_law_met" "_law_met" s__law_met f fd ∧ mg "_law_met" = some (.ref f)
  f_law : ∃ f fd, Fun K "law" "law" s_law f fd ∧ mg "law" = some (.ref f)

section
variable {P : Program} {w : World} {K : PySem.W.Frag} {mg : Str → Option Value} {base : Heap}
/-! ### basics -/
def lstQ (A : MH) (d : D) : Option Bool := (tyQ A d).map fun t => decide (t = .lst) || decide (t = .tup)
def f_list (A : MH) (d : D) : Option D := (lstQ A d).map .bl
theorem d_is_list (Z : Nv K mg) : Def P w K mg base 1 "is_list" (defArgs s_is_list) ["thing"] (r1 f_list) := mkDef Z.f_is_list (fun f fd F => by
  have S := sc_is_list
  refine def_ok F S r1_len fun cdv A outer s H E tb hr => ⟨_, (psq_one (psq_ret (pq_istN (qv 0) (.cons (c := .lst) (pq_ty Z.b_list) rfl (.cons (c := .tup) (pq_ty Z.b_tuple) rfl .nil)) Z.b_isinstance))), ?_⟩
  rintro ds A P ⟨d, rfl, h⟩
  rw [show startQ ["thing"] [d] = [some (d)] from rfl]
  walk_at "rd"
  unfold f_list lstQ at h
  cases e : tyQ A d with
  | none => rw [e] at h; exact h.elim
  | some t => rw [e] at h; cases t <;> exact h) (fun _ _ _ _ _ _ us hl => match us, hl with | [_], _ => rfl)
def whlQ (A : MH) (d : D) : Option Bool := (tyQ A d).map fun t => decide (t = .int)
def f_whole (A : MH) (d : D) : Option D := (whlQ A d).map .bl
theorem d_is_whole (Z : Nv K mg) : Def P w K mg base 1 "is_whole" (defArgs s_is_whole) ["thing"] (r1 f_whole) := mkDef Z.f_is_whole (fun f fd F => by
  have S := sc_is_whole
  refine def_ok F S r1_len fun cdv A outer s H E tb hr => ⟨_, (psq_one (psq_ret (pq_and (pq_ist1 .int (qv 0) (pq_ty Z.b_int) Z.b_isinstance) (pq_one (pq_not (pq_ist1 .bl (qv 0) (pq_ty Z.b_bool) Z.b_isinstance)))))), ?_⟩
  rintro ds A P ⟨d, rfl, h⟩
  rw [show startQ ["thing"] [d] = [some (d)] from rfl]
  walk_at "rd"
  unfold f_whole whlQ at h
  cases e : tyQ A d with
  | none => rw [e] at h; exact h.elim
  | some t => rw [e] at h; cases t <;> exact h) (fun _ _ _ _ _ _ us hl => match us, hl with | [_], _ => rfl)
/-- a number of 0 or more -/
def numQ (A : MH) : D → Option Bool
  | .int i => some (decide (0 ≤ i))
  | d => (tyQ A d).map fun _ => false
def f_number (A : MH) (d : D) : Option D := (numQ A d).map .bl
theorem tyQ_int {A : MH} {d : D} (h : tyQ A d = some .int) : ∃ i, d = .int i := by
  unfold tyQ at h
  split at h <;> first | exact ⟨_, rfl⟩ | (exfalso; revert h; first | (intro h; cases h; done) | (split <;> (intro h; cases h)))
theorem tyQ_str {A : MH} {d : D} (h : tyQ A d = some .str) : ∃ i, d = .str i := by
  unfold tyQ at h
  split at h <;> first | exact ⟨_, rfl⟩ | (exfalso; revert h; first | (intro h; cases h; done) | (split <;> (intro h; cases h)))
theorem numQ_not {A : MH} {d : D} {t : Ty} (h : tyQ A d = some t) (n : t ≠ .int) : numQ A d = some false := by
  unfold numQ
  split
  · cases h; exact absurd rfl n
  · rw [h]; rfl
def letters : Str := "abcdefghijklmnopqrstuvwxyz"
def symS (x : Str) : Bool := decide (1 ≤ x.length) && (decide (x.length ≤ 8) && x.cps.toList.all fun c => decide (c ∈ letters.cps.toList))
def symQ (A : MH) : D → Option Bool
  | .str x => if x.length ≤ 100000 then some (symS x) else none
  | .int i => some (decide (0 ≤ i) && decide (i ≤ 255))
  | d => (tyQ A d).map fun _ => false
def f_symbol (A : MH) (d : D) : Option D := (symQ A d).map .bl
theorem sgn_all (x : Str) : mapO (fun d => match d with | .str y => (inSg y letters).map D.bl | _ => none) (sgnD x) = some ((x.cps.toList.map fun c => decide (c ∈ letters.cps.toList)).map .bl) := by
  unfold sgnD
  rw [List.map_map]
  exact mapO_map fun c _ => rfl
theorem d_is_symbol (Z : Nv K mg) : Def P w K mg base 2 "is_symbol" (defArgs s_is_symbol) ["thing"] (r1 f_symbol) := mkDef Z.f_is_symbol (fun f fd F => by
  have S := sc_is_symbol
  refine def_ok F S r1_len fun cdv A outer s H E tb hr => ?_
  have G_is_whole := d_is_whole (P := P) (w := w) (base := base) Z
  have HR_is_whole := hr
  obtain ⟨_, L_LETTERS⟩ := Z.g_LETTERS
  refine ⟨_, (psq_cons (psq_if (ptq_val (pq_ist1 .str (qv 0) (pq_ty Z.b_str) Z.b_isinstance)) (psq_one (psq_ret (pq_and (pq_chainLeLe pq_int (pq_bi cq_len Z.b_len (paq_cons (qv 0) paq_nil)) pq_int) (pq_one (pq_bi (cq_all rfl) Z.b_all (paq_cons (pq_lc false rfl S.nd (piq_it (qv 0)) (blkOk_by (N := ["thing", "sign"]) (sc := defScope s_is_symbol) (own := [("sign", 1)]) (by decide +kernel)) (fun _ _ _ _ _ => (gq_nm 1 S.nd)) (fun _ _ _ _ _ => qts_nil) (fun _ _ _ _ _ => (pq_inS (qv 1) (pq_gstr L_LETTERS)))) paq_nil)))))) psq_nil) (psq_one (psq_ret (pq_and (pq_fn G_is_whole HR_is_whole (paq_cons (qv 0) paq_nil)) (pq_one (pq_chainLeLe pq_int (qv 0) pq_int)))))), ?_⟩
  rintro ds A P ⟨d, rfl, h⟩
  rw [show startQ ["thing", "sign"] [d] = [some (d), none] from rfl]
  walk_at "rd"
  unfold f_symbol at h
  cases e : tyQ A d with
  | none =>
    have : symQ A d = none := by
      unfold symQ
      split
      · cases e
      · cases e
      · rw [e]; rfl
    rw [this] at h; exact h.elim
  | some t =>
    by_cases q : t = .str
    · subst q
      obtain ⟨x, rfl⟩ := tyQ_str e
      rw [okQ_some, if_pos (by rfl)]
      unfold symQ at h
      by_cases hl : x.length ≤ 100000
      · simp only [if_pos hl, Option.map_some, okQ_some] at h
        rw [show lenD A (.str x) = some x.length from if_pos hl, okQ_some]
        unfold symS at h
        by_cases h1 : 1 ≤ x.length
        · rw [decide_eq_true h1, Bool.true_and] at h
          rw [decide_eq_true (by omega : (1 : Int) ≤ (x.length : Int))]
          by_cases h2 : x.length ≤ 8
          · rw [decide_eq_true h2, Bool.true_and] at h
            rw [decide_eq_true (by omega : (x.length : Int) ≤ 8)]
            show compL (Tgt.nm 1) _ _ _ (sgnD x) [] A _
            have hs : (sgnD x).length = x.length := by unfold sgnD; rw [List.length_map, Array.length_toList]; rfl
            refine compL_map _ (sgnD x) [] (by rw [hs]; simp; omega) (fun y hy Q hQ => ?_) (okQ_mk (sgn_all x) ?_)
            · unfold sgnD at hy
              obtain ⟨c, _, rfl⟩ := List.mem_map.mp hy
              exact hQ
            · show okQ ((some ([] ++ (x.cps.toList.map fun c => decide (c ∈ letters.cps.toList)).map D.bl)).bind blsD) _
              rw [show (some ([] ++ (x.cps.toList.map fun c => decide (c ∈ letters.cps.toList)).map D.bl)).bind blsD = some (x.cps.toList.map fun c => decide (c ∈ letters.cps.toList)) from blsD_map _, okQ_some]
              rw [List.all_map]
              exact h
          · rw [decide_eq_false h2] at h
            rw [decide_eq_false (by omega : ¬ (x.length : Int) ≤ 8)]
            exact h
        · rw [decide_eq_false h1] at h
          rw [decide_eq_false (by omega : ¬ (1 : Int) ≤ (x.length : Int))]
          exact h
      · simp only [if_neg hl] at h; exact h.elim
    · rw [okQ_some, if_neg (by cases t <;> first | exact absurd rfl q | decide)]
      unfold f_whole whlQ
      rw [e, Option.map_some, Option.map_some, okQ_some]
      by_cases q2 : t = .int
      · subst q2
        obtain ⟨i, rfl⟩ := tyQ_int e
        show (match D.bl (decide (0 ≤ i)) with | .bl true => _ | .bl false => _ | _ => False)
        unfold symQ at h
        rw [Option.map_some, okQ_some] at h
        by_cases h0 : 0 ≤ i
        · rw [decide_eq_true h0] at h ⊢; exact h
        · rw [decide_eq_false h0] at h ⊢; exact h
      · rw [decide_eq_false q2]
        have : symQ A d = some false := by
          unfold symQ
          split
          · cases e; exact absurd rfl q
          · cases e; exact absurd rfl q2
          · rw [e]; rfl
        rw [this] at h
        exact h) (fun _ _ _ _ _ _ us hl => match us, hl with | [_], _ => rfl)
/-- all are symbols, of one kind -/
def symsQ (A : MH) (xs : List D) : Option Bool := if xs.length ≤ 100000 then (mapO (symQ A) xs).bind fun bs => if xs = [] ∨ bs.all id = false then some false else (mapO (tyQ A) xs).map fun ts => ts.all (fun t => decide (t = .str)) || ts.all (fun t => !decide (t = .str)) else none
def f_symbols (A : MH) : D → Option D
  | .lst xs => (symsQ A xs).map .bl
  | _ => none
theorem d_are_symbols (Z : Nv K mg) : Def P w K mg base 3 "are_symbols" (defArgs s_are_symbols) ["things"] (r1 f_symbols) := mkDef Z.f_are_symbols (fun f fd F => by
  have S := sc_are_symbols
  refine def_ok F S r1_len fun cdv A outer s H E tb hr => ?_
  have G_is_symbol := d_is_symbol (P := P) (w := w) (base := base) Z
  have HR_is_symbol := hr
  refine ⟨_, (psq_cons (psq_if (PWQ.pt (pwq_or (ptq_eq hr.units (pq_bi cq_len Z.b_len (paq_cons (qv 0) paq_nil)) pq_int) (pwq_or1 (ptq_not (ptq_val (pq_bi (cq_all rfl) Z.b_all (paq_cons (pq_lc false rfl S.nd (piq_it (qv 0)) (blkOk_by (N := ["things", "one"]) (sc := defScope s_are_symbols) (own := [("one", 1)]) (by decide +kernel)) (fun _ _ _ _ _ => (gq_nm 1 S.nd)) (fun _ _ _ _ _ => qts_nil) (fun _ _ _ _ _ => (pq_fn G_is_symbol HR_is_symbol (paq_cons (qv 1) paq_nil)))) paq_nil))))))) (psq_one (psq_ret pq_bl)) psq_nil) (psq_one (psq_ret (pq_eq hr.units (pq_bi cq_len Z.b_len (paq_cons (pq_dcB rfl S.nd (piq_it (qv 0)) (blkOk_by (N := ["things", "one"]) (sc := defScope s_are_symbols) (own := [("one", 1)]) (by decide +kernel)) ⟨fun _ _ _ _ _ => (gq_nm 1 S.nd), fun _ _ _ _ _ => qts_nil, fun _ _ _ _ _ => pq_bl⟩ (fun _ _ _ _ _ => (pq_ist1 .str (qv 1) (pq_ty Z.b_str) Z.b_isinstance))) paq_nil)) pq_int)))), ?_⟩
  rintro ds A P ⟨d, rfl, h⟩
  rw [show startQ ["things", "one"] [d] = [some (d), none] from rfl]
  unfold f_symbols at h
  split at h
  case h_2 => exact h.elim
  rename_i xs
  unfold symsQ at h
  split at h
  case isFalse => exact h.elim
  rename_i hl
  walk_at "rd"
  cases e1 : mapO (symQ A) xs with
  | none => rw [e1] at h; exact h.elim
  | some bs =>
    rw [e1, Option.bind_some] at h
    by_cases hx : xs = []
    · subst hx
      rw [if_pos (.inl rfl)] at h
      rw [if_pos (by rfl)]
      exact h
    · have hn : ¬ (decide ((xs.length : Int) = 0) = true) := by
        rw [decide_eq_true_eq]
        intro z
        exact hx (List.length_eq_zero_iff.mp (by omega))
      rw [if_neg hn]
      show compL _ _ _ _ xs [] A _
      have e2 : mapO (f_symbol A) xs = some (bs.map D.bl) := mapO_comp D.bl e1 fun x _ y e => by unfold f_symbol; rw [e]; rfl
      refine compL_map (f_symbol A) xs [] (by simpa using hl) (fun y _ Q hQ => (by show r1 f_symbol [y] A Q; rw [r1_rd]; exact hQ)) (okQ_mk e2 ?_)
      rw [show (some ([] ++ bs.map D.bl)).bind blsD = some bs from blsD_map bs, okQ_some]
      cases hb : bs.all id with
      | false =>
        rw [if_pos (.inr hb)] at h
        exact h
      | true =>
        rw [if_neg (by rintro (z | z); exact hx z; rw [hb] at z; cases z)] at h
        rw [if_neg (by decide)]
        cases e3 : mapO (tyQ A) xs with
        | none => rw [e3] at h; exact h.elim
        | some ts =>
          rw [e3] at h
          show compF _ _ _ _ _ xs [] A _
          refine compF_map (fun x => (tyQ A x).map fun t => some (decide (t = .str))) (fun _ => some (.bl true)) xs [] (by simpa using hl) (fun y _ Q hQ => ?_) (okQ_mk (mapO_comp (fun t : Ty => (some (decide (t = .str)), D.bl true)) e3 fun x _ y e => by rw [e]; rfl) ?_)
          · show okQ (tyQ A y) _
            cases e4 : tyQ A y with
            | none => rw [e4] at hQ; exact hQ.elim
            | some t =>
              rw [e4] at hQ
              cases t <;> exact hQ
          · have e5 : (ts.map fun t : Ty => (some (decide (t = .str)), D.bl true)) = (ts.map fun t : Ty => decide (t = .str)).map fun b => (some b, D.bl true) := by rw [List.map_map]; rfl
            rw [e5]
            have hm := merge_bools (ts.map fun t : Ty => decide (t = .str)) [] .nil
            have hne : ([] : List Bool) ++ (ts.map fun t : Ty => decide (t = .str)) ≠ [] := by
              intro z
              have := mapO_length e3
              rw [List.nil_append, List.map_eq_nil_iff] at z
              rw [z] at this
              exact hx (List.length_eq_zero_iff.mp this.symm)
            rw [List.nil_append] at hm hne
            show okQ (some ((mergeA [] _).map _).length) _
            rw [okQ_some, List.length_map]
            have e6 : decide (((mergeA [] ((ts.map fun t : Ty => decide (t = .str)).map fun b => (some b, D.bl true))).length : Int) = 1) = ((ts.all fun t => decide (t = .str)) || ts.all fun t => !decide (t = .str)) := by
              rw [Bool.eq_iff_iff, decide_eq_true_eq, Bool.or_eq_true]
              rw [List.all_map, List.all_map] at hm
              constructor
              · intro z
                exact (hm.mp (by have : (mergeA (([] : List Bool).map fun b => (some b, D.bl true)) ((ts.map fun t : Ty => decide (t = .str)).map fun b => (some b, D.bl true))).length = 1 := by exact_mod_cast z
                                 exact this)).2
              · intro z
                have := hm.mpr ⟨hne, z⟩
                exact_mod_cast this
            rw [e6]
            exact h) (fun _ _ _ _ _ _ us hl => match us, hl with | [_], _ => rfl)
def posQ (A : MH) : D → Option Bool
  | .int i => some (decide (0 < i))
  | d => (tyQ A d).map fun _ => false
def keptK (ps : List (Key × D)) : Option (List (Key × D)) := (sortKeys ps).bind fun ks => mapO (fun k => (getA ps k).map fun v => (k, v)) ks
def f_kept (A : MH) (d : D) : Option D := (tyQ A d).bind fun t => if t ≠ .dic then some .non else (entD A d).bind fun kvs => (symsQ A (kvs.map (·.1))).bind fun b => if b = false then some .non else match d with
  | .dic ps => if ps.length < 64 then (mapO (fun p : Key × D => (getA ps p.1).bind (posQ A)) ps).bind fun bs => if bs.all id = false then some .non else (keptK ps).map fun kvs => .dic (mergeA [] kvs) else none
  | _ => none
theorem pos_whole {A : MH} {v : D} {b : Bool} (h : posQ A v = some b) {Q : KQ} (q : Q (.bl b) A) : okQ (f_whole A v) fun d => match d with | .bl true => qGtI v (.int 0) A Q | .bl false => Q (.bl false) A | _ => False := by
  unfold f_whole whlQ
  cases e : tyQ A v with
  | none =>
    exfalso
    unfold posQ at h
    split at h
    · cases e
    · rw [e] at h; cases h
  | some t =>
    rw [Option.map_some, Option.map_some, okQ_some]
    by_cases n : t = .int
    · subst n
      obtain ⟨i, rfl⟩ := tyQ_int e
      cases h
      exact q
    · rw [decide_eq_false n]
      unfold posQ at h
      split at h
      · cases e; exact absurd rfl n
      · rw [e] at h; cases h; exact q
def r_need (C : Addr) : RXQ := fun ds A P x2 => ∃ d, ds = [d] ∧ okQ (f_kept A d) fun z => if isN z = true then x2 C [("counts", d)] A else P z A
end
end K66


set_option Elab.async false
set_option linter.all false
set_option maxRecDepth 100000
set_option maxHeartbeats 4000000
namespace K66
open PySem L2 Qd
local macro_rules | `(tactic| walk_at "rd") => `(tactic| simp only [qVar_z, qVar_s, qC, qSeq, qNext, qRet, qRetN, qIfS, qTest, qIs, qOp, qUn, qAnd, qOr, qNot, qAndV, qOrV, qNotV, qCB, qCons, qNil, okQ_some, okQ_none, qIf, qChain, qI, qIC, r1_rd, r2_rd, Qd.rLen, qLc, qIt, rAllQ, rAnyQ, rSumQ, rMinQ, rMaxQ, rAbsQ, rIntQ, newL_f, newL_t, Bool.false_eq_true, if_false, qInS, qEq, qNe, qIsN, qNotN, qDrop, if_true, qDcB, qFill, kkB, qDGet, kkK, qDcK, qFzD, qAsg, tset_nm, tset_tp, tsets_nil, tsets_nm, tsets_tp, wipe_nil, wipe_cons, List.set_cons_zero, List.set_cons_succ, qRaise, qFor, qRng1, qRng2, qTup, qLst, qPar, eqD_int, eqD_str, eqD_bl, itD_lst, itD_tup, itD_dic, lenD_lst, lenD_tup, lenD_dic, dicD_dic, lstD_lst, seqD_lst, seqD_tup, qSl, qoNone, qoSome, qRevL, qLrg1, qLrg2, qCX, qKw, qKwX, List.length_cons, List.length_nil, List.map_cons, List.map_nil, qAsgG, gTupQ, gConsQ, gSubT, gNilQ, qTGet, qDcT, kkT, qNewT, qNewK, List.length_map, Int.toNat_natCast, ditD_mut, qIx_tup, qIx_lst, keysT_2, Bool.or_true, Bool.true_or, Int.zero_add, isN_tup, isN_lst, isN_int, isN_dic, isN_non, at_zero, qMeth, qAddL, qMulL, rTupQ, qCBw, qLX, qLKw, qMet, pick_0, pick_10, qFz, qFzN, qDispF, qNewF, qDictF, qpCons, qpNil, qDispB, qDispT, keyPs, obD, qEqV, gSubQ, qNegI, qMets, at4_0, at4_1, at4_2, at4_3, ix4_1, ix4_2, ix4_3])
local macro_rules | `(tactic| walk_at "rs") => `(tactic| simp only [qVar_z, qVar_s, qC, qNext, qRet, qRetN, qIfS, qTest, qIs, qOp, qUn, qAnd, qOr, qNot, qAndV, qOrV, qNotV, qCB, qCons, qNil, okQ_some, okQ_none, qIf, qChain, qI, qIC, r1_rd, r2_rd, Qd.rLen, qLc, qIt, rAllQ, rAnyQ, rSumQ, rMinQ, rMaxQ, rAbsQ, rIntQ, newL_f, newL_t, Bool.false_eq_true, if_false, qInS, qEq, qNe, qIsN, qNotN, qDrop, if_true, qDcB, qFill, kkB, qDGet, kkK, qDcK, qFzD, qAsg, tset_nm, tset_tp, tsets_nil, tsets_nm, tsets_tp, wipe_nil, wipe_cons, List.set_cons_zero, List.set_cons_succ, qRaise, qFor, qRng1, qRng2, qTup, qLst, qPar, eqD_int, eqD_str, eqD_bl, itD_lst, itD_tup, itD_dic, lenD_lst, lenD_tup, lenD_dic, dicD_dic, lstD_lst, seqD_lst, seqD_tup, qSl, qoNone, qoSome, qRevL, qLrg1, qLrg2, qCX, qKw, qKwX, List.length_cons, List.length_nil, List.map_cons, List.map_nil, qAsgG, gTupQ, gConsQ, gSubT, gNilQ, qTGet, qDcT, kkT, qNewT, qNewK, List.length_map, Int.toNat_natCast, ditD_mut, qIx_tup, qIx_lst, keysT_2, Bool.or_true, Bool.true_or, Int.zero_add, isN_tup, isN_lst, isN_int, isN_dic, isN_non, at_zero, qMeth, qAddL, qMulL, rTupQ, qCBw, qLX, qLKw, qMet, pick_0, pick_10, qFz, qFzN, qDispF, qNewF, qDictF, qpCons, qpNil, qDispB, qDispT, keyPs, obD, qEqV, gSubQ, qNegI, qMets, at4_0, at4_1, at4_2, at4_3, ix4_1, ix4_2, ix4_3])
section
variable {P : Program} {w : World} {K : PySem.W.Frag} {mg : Str → Option Value} {base : Heap}
/-! the stream of draws, told more closely: how much is left in its cells, how many draws were made, the mixing -/
def nb (n : Nat) : Nat := if n = 0 then 0 else Nat.log2 n + 1
theorem nb_le {n k : Nat} : nb n ≤ k ↔ n < 2 ^ k := by
  unfold nb
  by_cases h : n = 0
  · subst h
    rw [if_pos rfl]
    exact ⟨fun _ => Nat.pow_pos (by decide), fun _ => Nat.zero_le _⟩
  · rw [if_neg h, ← Nat.log2_lt h]
    omega
theorem nb_div {n m : Nat} (h : 0 < n) (hm : 2 ≤ m) : nb (n / m) < nb n := by
  have h2 : n < 2 ^ (Nat.log2 n + 1) := (Nat.log2_lt (by omega)).mp (Nat.lt_succ_self _)
  have h3 : nb n = Nat.log2 n + 1 := by unfold nb; rw [if_neg (by omega)]
  have h4 : n / m ≤ n / 2 := Nat.div_le_div_left hm (by decide)
  have h5 : nb (n / m) ≤ Nat.log2 n := nb_le.mpr (by
    rw [Nat.pow_succ] at h2
    omega)
  omega
theorem nb_mono {n m : Nat} (h : n ≤ m) : nb n ≤ nb m := nb_le.mpr (Nat.lt_of_le_of_lt h (nb_le.mp (Nat.le_refl _)))
theorem nb_pos {n : Nat} (h : 0 < n) : 0 < nb n := by unfold nb; rw [if_neg (by omega)]; omega
def phi (cs : List Int) (x : Int) : Nat := (cs.map fun c => nb c.natAbs + 1).sum + nb x.natAbs
def StrX (A : MH) (a b : Addr) (F y : Nat) (z : Int) : Prop := ∃ (cs : List Int) (x : Int), a ≠ b ∧ A a = some (.lst [.mut b, .int x, .int (y : Int), .int z]) ∧ A b = some (.lst (cs.map .int)) ∧ cs.length ≤ 63 ∧ 0 ≤ x ∧ F = phi cs x ∧ 0 ≤ z ∧ z < 2147483647
def Strm (A : MH) (a b : Addr) (n : Nat) : Prop := ∃ F y z, StrX A a b F y z ∧ y ≤ n ∧ F ≤ 70000000
theorem StrX.ne {A : MH} {a b : Addr} {F y : Nat} {z : Int} (h : StrX A a b F y z) {c : Addr} (hc : A c = none) : c ≠ a ∧ c ≠ b := by
  obtain ⟨_, _, _, h1, h2, _⟩ := h
  exact ⟨fun z => (by rw [z, h1] at hc; cases hc), fun z => (by rw [z, h2] at hc; cases hc)⟩
theorem StrX.at {A A' : MH} {a b : Addr} {F y : Nat} {z : Int} (h : StrX A a b F y z) (ha : A' a = A a) (hb : A' b = A b) : StrX A' a b F y z := by
  obtain ⟨cs, x, h0, h1, h2, h3⟩ := h
  exact ⟨cs, x, h0, ha.trans h1, hb.trans h2, h3⟩
theorem StrX.set {A : MH} {a b c : Addr} {F y : Nat} {z : Int} {o : MO} (h : StrX A a b F y z) (h1 : c ≠ a) (h2 : c ≠ b) : StrX (A.set c o) a b F y z := h.at (MH.set_ne (Ne.symm h1)) (MH.set_ne (Ne.symm h2))
theorem Strm.ne {A : MH} {a b : Addr} {n : Nat} (h : Strm A a b n) {c : Addr} (hc : A c = none) : c ≠ a ∧ c ≠ b := by
  obtain ⟨_, _, _, h1, _⟩ := h
  exact h1.ne hc
theorem Strm.at {A A' : MH} {a b : Addr} {n : Nat} (h : Strm A a b n) (ha : A' a = A a) (hb : A' b = A b) : Strm A' a b n := by
  obtain ⟨F, y, z, h1, h2⟩ := h
  exact ⟨F, y, z, h1.at ha hb, h2⟩
theorem Strm.set {A : MH} {a b c : Addr} {n : Nat} {o : MO} (h : Strm A a b n) (h1 : c ≠ a) (h2 : c ≠ b) : Strm (A.set c o) a b n := h.at (MH.set_ne (Ne.symm h1)) (MH.set_ne (Ne.symm h2))
theorem Strm.up {A : MH} {a b : Addr} {n m : Nat} (h : Strm A a b n) (l : n ≤ m) : Strm A a b m := by
  obtain ⟨F, y, z, h1, h2, h3⟩ := h
  exact ⟨F, y, z, h1, by omega, h3⟩
/-- from one stream to another: nothing else changes -/
def Off (a b : Addr) (A A' : MH) : Prop := ∀ x, x ≠ a → x ≠ b → A' x = A x
theorem Off.trans {a b : Addr} {A B C : MH} (h : Off a b A B) (g : Off a b B C) : Off a b A C := fun x h1 h2 => (g x h1 h2).trans (h x h1 h2)
theorem Off.refl {a b : Addr} (A : MH) : Off a b A A := fun _ _ _ => rfl
def r_stream : RNQ := fun ds A P => ∃ ns : List Int, ds = [.frl (ns.map .int)] ∧ ns.length ≤ 63 ∧ (∀ x ∈ ns, nb x.natAbs ≤ 1048576) ∧ ∀ a b A', A a = none → A b = none → Strm A' a b 0 → Off a b A A' → P (.mut a) A'
theorem phi_le : ∀ {ns : List Int}, (∀ x ∈ ns, nb x.natAbs ≤ 1048576) → (ns.map fun c => nb c.natAbs + 1).sum ≤ ns.length * 1048577
  | [], _ => Nat.le_refl _
  | n :: ns, h => by
    have h1 := h n (List.mem_cons_self ..)
    have h2 := phi_le fun x hx => h x (List.mem_cons_of_mem _ hx)
    rw [List.map_cons, List.sum_cons, List.length_cons, Nat.add_mul]
    omega
theorem d__law_stream (Z : Nv K mg) : Def P w K mg base 1 "_law_stream" (defArgs s__law_stream) ["script"] r_stream := mkDef Z.f__law_stream (fun f fd F => by
  have S := sc__law_stream
  refine def_okS F S (by rintro ds A P ⟨ns, rfl, _⟩; rfl) fun cdv A outer s H E tb hr => ?_
  refine ⟨_, (psq_one (psq_ret (pq_lst true (paq_cons (pq_bt (cq_list true rfl) Z.b_list (paq_cons (qv 0) paq_nil)) (paq_cons pq_int (paq_cons pq_int (paq_cons pq_int paq_nil))))))), ?_⟩
  rintro ds A P ⟨ns, rfl, hn, hb63, h⟩
  rw [show startQ ["script"] [D.frl (ns.map D.int)] = [some (D.frl (ns.map D.int))] from rfl]
  walk_at "rd"
  refine rList_seq rfl ?_
  walk_at "rd"
  intro b hb
  refine ⟨by decide, fun a ha => ?_⟩
  have hab : a ≠ b := fun z => by subst z; rw [MH.set_same] at ha; cases ha
  rw [MH.set_ne hab] at ha
  refine ⟨_, Shr.refl _, h a b _ ha hb ⟨_, 0, 17, ⟨ns, 0, hab, MH.set_same, ?_, hn, by decide, rfl, by decide, by decide⟩, Nat.le_refl 0, ?_⟩ fun x h1 h2 => ?_⟩
  · rw [MH.set_ne (Ne.symm hab), MH.set_same]
  · have := phi_le hb63
    have e0 : nb (0 : Int).natAbs = 0 := rfl
    unfold phi
    omega
  · rw [MH.set_ne h1, MH.set_ne h2]) (fun _ _ _ _ _ _ us hl => match us, hl with | [_], _ => rfl)
def maxDraws : Nat := 1000000000000000000000000
theorem pow_small {i : Int} {k : Nat} (h : i.natAbs < 2 ^ 100) (hk : k ≤ 5) : (Builtin.Int.intBits i : Int) * (k : Int) ≤ 2 ^ 27 := by
  have h1 : Builtin.Int.intBits i ≤ 100 := PySem.intBits_le_iff.mpr h
  have h2 : Builtin.Int.intBits i * k ≤ 100 * 5 := Nat.mul_le_mul h1 hk
  have h3 : ((Builtin.Int.intBits i * k : Nat) : Int) ≤ 500 := by omega
  rw [Int.natCast_mul] at h3
  omega
theorem pow5 {i : Int} (h1 : 0 ≤ i) (h2 : i < 1000000000000000000000000000000) : (Builtin.Int.intBits i : Int) * 5 ≤ 2 ^ 27 := pow_small (k := 5) (by omega) (by decide)
theorem pow3 {i : Int} (h1 : 0 ≤ i) (h2 : i < 1000000000000000000000000000000) : (Builtin.Int.intBits i : Int) * 3 ≤ 2 ^ 27 := pow_small (k := 3) (by omega) (by decide)
/-- what is drawn when the cells are used up -/
@[irreducible] def gdraw (z y : Int) : Int := (((z + 7919 * y + 104729) ^ 5 % 2147483629) * 48271 + 30011 * y + 29) ^ 3 % 1000000007
def r_drawF : RNQ := fun ds A P => ∃ (a b : Addr) (F y : Nat) (z m : Int), ds = [.mut a, .int m] ∧ 0 < m ∧ m < 1000000000 ∧ StrX A a b F y z ∧ y < maxDraws ∧ ∀ v A' F' z', 0 ≤ v → v < m → StrX A' a b F' (y + 1) z' → Off a b A A' → F' ≤ F → ((2 ≤ m → F' < F) ∨ (F = 0 ∧ F' = 0 ∧ z' = z ∧ v = gdraw z (y + 1) % m)) → P (.int v) A'
theorem d_drawF (Z : Nv K mg) : Def P w K mg base 1 "_law_draw" (defArgs s__law_draw) ["stream", "many"] r_drawF := mkDef Z.f__law_draw (fun f fd F => by
  have S := sc__law_draw
  refine def_okS F S (by rintro ds A P ⟨a, b, F, y, z, m, rfl, _⟩; rfl) fun cdv A outer s H E tb hr => ?_
  refine ⟨_, (psq_cons (psq_asgG (pq_addI (pq_ix (qv 0) pq_int) pq_int) (ptg_sub setRel_L set_list (qv 0) pq_int)) (psq_cons (psq_while PassesOwn.never (PWQ.pt (pwq_and (ptq_eq hr.units (pq_ix (qv 0) pq_int) pq_int) (pwq_and1 (ptq_nev 3 hr.units (pq_ix (qv 0) pq_int) (pq_lst false paq_nil))))) (psq_cons (psq_set (i := 2) S.nd (pq_bi cq_abs Z.b_abs (paq_cons (pq_pop (pq_ix (qv 0) pq_int) (paq_cons pq_int paq_nil)) paq_nil))) (psq_cons (psq_asgG (pq_modI (pq_bt cq_int Z.b_int (paq_cons (pq_addI (pq_addI (pq_mulI (pq_ix (qv 0) pq_int) pq_int) (qv 2)) pq_int) paq_nil)) pq_int) (ptg_sub setRel_L set_list (qv 0) pq_int)) (psq_one (psq_asgG (pq_if (ptq_geI (qv 2) (pq_powI pq_int pq_int)) (qv 2) pq_int) (ptg_sub setRel_L set_list (qv 0) pq_int)))))) (psq_cons (psq_if (ptq_gtI (pq_ix (qv 0) pq_int) pq_int) (psq_cons (psq_set (i := 3) S.nd (pq_modI (pq_bt cq_int Z.b_int (paq_cons (pq_ix (qv 0) pq_int) paq_nil)) (qv 1))) (psq_cons (psq_asgG (pq_divI (pq_ix (qv 0) pq_int) (qv 1)) (ptg_sub setRel_L set_list (qv 0) pq_int)) (psq_one (psq_ret (qv 3))))) psq_nil) (psq_cons (psq_set (i := 4) S.nd (pq_modI (pq_bt cq_int Z.b_int (paq_cons (pq_powI (pq_addI (pq_addI (pq_ix (qv 0) pq_int) (pq_mulI pq_int (pq_ix (qv 0) pq_int))) pq_int) pq_int) paq_nil)) pq_int)) (psq_one (psq_ret (pq_modI (pq_modI (pq_bt cq_int Z.b_int (paq_cons (pq_powI (pq_addI (pq_addI (pq_mulI (qv 4) pq_int) (pq_mulI pq_int (pq_ix (qv 0) pq_int))) pq_int) pq_int) paq_nil)) pq_int) (qv 1)))))))), ?_⟩
  rintro ds A P ⟨a, b, F0, yn, z0, m, rfl, hm0, hm1, ⟨cs0, x0, hab, ha, hb, hl, hx0, hF, hz0, hz1⟩, hn, h⟩
  rw [show startQ ["stream", "many", "cell", "digit", "mixed"] [D.mut a, D.int m] = [some (D.mut a), some (D.int m), none, none, none] from rfl]
  walk_at "rd"
  rw [qIx_mut ha]
  walk_at "rd"
  rw [setL_mut ha]
  walk_at "rd"
  obtain ⟨y, hy⟩ : ∃ y : Int, y = (yn : Int) := ⟨_, rfl⟩
  rw [← hy] at ha ⊢
  have hy1 : ((yn + 1 : Nat) : Int) = y + 1 := by omega
  refine ⟨fun k s' A' => ∃ (cs : List Int) (x z : Int) (x2 : Option D), s' = [some (D.mut a), some (.int m), x2, none, none] ∧ A' a = some (.lst [.mut b, .int x, .int (y + 1), .int z]) ∧ A' b = some (.lst (cs.map .int)) ∧ Off a b A A' ∧ cs.length = k ∧ k ≤ 63 ∧ 0 ≤ x ∧ 0 ≤ z ∧ z < 2147483647 ∧ phi cs x ≤ F0 ∧ (phi cs x < F0 ∨ z = z0), ⟨cs0.length, cs0, x0, z0, _, rfl, MH.set_same, ?_, ?_, rfl, hl, hx0, hz0, hz1, by omega, .inr rfl⟩, ?_⟩
  · rw [MH.set_ne (Ne.symm hab)]; exact hb
  · exact fun q h1 h2 => MH.set_ne h1
  clear ha hb
  rintro k s' A' ⟨cs, x, z, x2, rfl, ha, hb, ho, rfl, hl, hx, hz0, hz1, hp1, hp2⟩
  walk_at "rd"
  rw [qIx_mut ha]
  walk_at "rd"
  have pos : 0 < x → ∃ A2, Shr A2 (A'.set a (.lst [.mut b, .int (x / m), .int (y + 1), .int z])) ∧ P (.int (x % m)) A2 := fun h0 => by
    refine ⟨_, Shr.refl _, h _ _ (phi cs (x / m)) z (Int.emod_nonneg _ (by omega)) (Int.emod_lt_of_pos _ hm0) ⟨cs, x / m, hab, by rw [hy1]; exact MH.set_same, by rw [MH.set_ne (Ne.symm hab)]; exact hb, hl, Int.ediv_nonneg hx (by omega), rfl, hz0, hz1⟩ (fun q h1 h2 => by rw [MH.set_ne h1]; exact ho q h1 h2) ?_ (.inl fun hm2 => ?_)⟩
    · obtain ⟨xn, rfl⟩ := Int.eq_ofNat_of_zero_le hx
      obtain ⟨mn, rfl⟩ := Int.eq_ofNat_of_zero_le (show 0 ≤ m by omega)
      have e1 : ((xn : Int) / (mn : Int)).natAbs = xn / mn := by rw [← Int.natCast_ediv]; rfl
      have e2 : ((xn : Nat) : Int).natAbs = xn := rfl
      have := nb_mono (Nat.div_le_self xn mn)
      unfold phi at hp1 ⊢
      rw [e1]
      rw [e2] at hp1
      omega
    · obtain ⟨xn, rfl⟩ := Int.eq_ofNat_of_zero_le hx
      obtain ⟨mn, rfl⟩ := Int.eq_ofNat_of_zero_le (show 0 ≤ m by omega)
      have e1 : ((xn : Int) / (mn : Int)).natAbs = xn / mn := by rw [← Int.natCast_ediv]; rfl
      have e2 : ((xn : Nat) : Int).natAbs = xn := rfl
      have := nb_div (n := xn) (m := mn) (by omega) (by omega)
      unfold phi at hp1 ⊢
      rw [e1]
      rw [e2] at hp1
      omega
  by_cases hx0 : x = 0
  · rw [if_pos (decide_eq_true hx0), qIx_mut ha]
    walk_at "rd"
    rw [view_mut hb]
    walk_at "rd"
    rw [view_nil]
    walk_at "rd"
    rw [eqD_nil]
    walk_at "rd"
    refine ⟨by decide, ?_⟩
    by_cases hc : cs = []
    · rw [if_neg (by rw [decide_eq_true hc]; decide)]
      rw [qIx_mut ha]
      walk_at "rd"
      rw [if_neg (by rw [decide_eq_false (by omega)]; decide), qIx_mut ha]
      walk_at "rd"
      rw [qIx_mut ha]
      walk_at "rd"
      refine ⟨.inl ⟨by decide, by decide⟩, ⟨by decide, pow5 (by omega) (by unfold maxDraws at hn; omega)⟩, show (0 : Int) < _ by decide, ?_⟩
      refine ⟨.inr ⟨by decide, by decide⟩, ?_⟩
      rw [qIx_mut ha]
      walk_at "rd"
      have g1 := Int.emod_nonneg ((z + 7919 * (y + 1) + 104729) ^ Int.toNat 5) (show (2147483629 : Int) ≠ 0 by decide)
      have g2 := Int.emod_lt_of_pos ((z + 7919 * (y + 1) + 104729) ^ Int.toNat 5) (show (0 : Int) < 2147483629 by decide)
      refine ⟨.inl ⟨by decide, by decide⟩, ⟨by decide, pow3 (by omega) (by unfold maxDraws at hn; omega)⟩, show (0 : Int) < _ by decide, hm0, ?_⟩
      have ep : phi cs x = 0 := by rw [hc, hx0]; rfl
      refine ⟨_, Shr.refl _, h _ _ (phi cs x) z (Int.emod_nonneg _ (by omega)) (Int.emod_lt_of_pos _ hm0) ⟨cs, x, hab, by rw [hy1]; exact ha, hb, hl, hx, rfl, hz0, hz1⟩ ho hp1 ?_⟩
      rcases hp2 with h1 | h1
      · exact .inl fun _ => h1
      · subst h1
        by_cases hF0 : F0 = 0
        · refine .inr ⟨hF0, ep, rfl, ?_⟩
          rw [← hy]
          unfold gdraw
          rfl
        · exact .inl fun _ => by omega
    · rw [if_pos (by rw [decide_eq_false hc]; rfl), qIx_mut ha]
      walk_at "rd"
      rw [isLm_mut hb, pop_mut hb]
      refine ⟨trivial, by decide, by decide, ?_⟩
      cases cs with
      | nil => exact absurd rfl hc
      | cons c cs =>
        have ha2 : (A'.set b (.lst (cs.map D.int))) a = some (.lst [.mut b, .int x, .int (y + 1), .int z]) := by rw [MH.set_ne hab]; exact ha
        show okQ (some (D.int c)) _
        rw [okQ_some]
        show qIx (.mut a) (.int 3) (A'.set b (.lst (cs.map D.int))) _
        rw [qIx_mut ha2]
        walk_at "rd"
        refine ⟨.inr ⟨by decide, by decide⟩, show (0 : Int) < _ by decide, ?_⟩
        rw [setL_mut ha2]
        walk_at "rd"
        refine ⟨⟨by decide, by decide⟩, ?_⟩
        have g1 := Int.emod_nonneg (z * 8191 + (if c < 0 then -c else c) + 3) (show (2147483647 : Int) ≠ 0 by decide)
        have g2 := Int.emod_lt_of_pos (z * 8191 + (if c < 0 then -c else c) + 3) (show (0 : Int) < 2147483647 by decide)
        rw [List.length_cons] at hl
        have fin : ∀ (v : Int) (A3 : MH), A3 = (((A'.set b (.lst (cs.map D.int))).set a (.lst [.mut b, .int x, .int (y + 1), .int ((z * 8191 + (if c < 0 then -c else c) + 3) % 2147483647)])).set a (.lst [.mut b, .int v, .int (y + 1), .int ((z * 8191 + (if c < 0 then -c else c) + 3) % 2147483647)])) → A3 b = some (.lst (cs.map D.int)) ∧ Off a b A A3 := fun v A3 e => by
          subst e
          refine ⟨by rw [MH.set_ne (Ne.symm hab), MH.set_ne (Ne.symm hab), MH.set_same], fun q h1 h2 => by rw [MH.set_ne h1, MH.set_ne h1, MH.set_ne h2]; exact ho q h1 h2⟩
        have ep : phi (c :: cs) x = (cs.map fun c => nb c.natAbs + 1).sum + nb c.natAbs + 1 := by
          rw [hx0]; unfold phi
          rw [List.map_cons, List.sum_cons]
          show _ + 0 = _
          omega
        have e1 : phi cs (if c < 0 then -c else c) < F0 := by
          have : (if c < 0 then -c else c).natAbs = c.natAbs := by split <;> omega
          unfold phi
          rw [this]
          omega
        have e2 : phi cs 0 < F0 := by
          unfold phi
          show _ + 0 < _
          omega
        by_cases hbig : (10 : Int) ^ Int.toNat 18 ≤ if c < 0 then -c else c
        · rw [if_pos (decide_eq_true hbig), setL_mut MH.set_same]
          walk_at "rd"
          obtain ⟨f1, f2⟩ := fin _ _ rfl
          exact ⟨cs.length, by simp, cs, _, _, _, rfl, MH.set_same, f1, f2, rfl, by omega, by split <;> omega, g1, g2, Nat.le_of_lt e1, .inl e1⟩
        · rw [if_neg (by rw [decide_eq_false hbig]; decide), setL_mut MH.set_same]
          walk_at "rd"
          obtain ⟨f1, f2⟩ := fin _ _ rfl
          exact ⟨cs.length, by simp, cs, _, _, _, rfl, MH.set_same, f1, f2, rfl, by omega, Int.le_refl 0, g1, g2, Nat.le_of_lt e2, .inl e2⟩
  · rw [if_neg (by rw [decide_eq_false hx0]; decide)]
    rw [qIx_mut ha]
    walk_at "rd"
    rw [if_pos (decide_eq_true (by omega : 0 < x)), qIx_mut ha]
    walk_at "rd"
    refine ⟨hm0, ?_⟩
    rw [qIx_mut ha]
    walk_at "rd"
    refine ⟨⟨hm0, by omega⟩, ?_⟩
    rw [setL_mut ha]
    walk_at "rd"
    exact pos (by omega)) (fun _ _ _ _ _ _ us hl => match us, hl with | [_, _], _ => rfl)
def r_draw : RNQ := fun ds A P => ∃ (a b : Addr) (n : Nat) (m : Int), ds = [.mut a, .int m] ∧ 0 < m ∧ m < 1000000000 ∧ Strm A a b n ∧ n < maxDraws ∧ ∀ z A', 0 ≤ z → z < m → Strm A' a b (n + 1) → Off a b A A' → P (.int z) A'
theorem d__law_draw (Z : Nv K mg) : Def P w K mg base 1 "_law_draw" (defArgs s__law_draw) ["stream", "many"] r_draw := (d_drawF Z).imp fun ds A P ⟨a, b, n, m, e, h1, h2, ⟨F, y, z, h3, h4, h5⟩, h6, h7⟩ =>
  ⟨a, b, F, y, z, m, e, h1, h2, h3, by omega, fun v A' F' z' v0 v1 hs ho hF _ => h7 v A' v0 v1 ⟨F', y + 1, z', hs, by omega, by omega⟩ ho⟩
end
end K66


set_option Elab.async false
set_option linter.all false
set_option maxRecDepth 100000
set_option maxHeartbeats 4000000
namespace K66
open PySem L2 Qd
local macro_rules | `(tactic| walk_at "rd") => `(tactic| simp only [qVar_z, qVar_s, qC, qSeq, qNext, qRet, qRetN, qIfS, qTest, qIs, qOp, qUn, qAnd, qOr, qNot, qAndV, qOrV, qNotV, qCB, qCons, qNil, okQ_some, okQ_none, qIf, qChain, qI, qIC, r1_rd, r2_rd, Qd.rLen, qLc, qIt, rAllQ, rAnyQ, rSumQ, rMinQ, rMaxQ, rAbsQ, rIntQ, newL_f, newL_t, Bool.false_eq_true, if_false, qInS, qEq, qNe, qIsN, qNotN, qDrop, if_true, qDcB, qFill, kkB, qDGet, kkK, qDcK, qFzD, qAsg, tset_nm, tset_tp, tsets_nil, tsets_nm, tsets_tp, wipe_nil, wipe_cons, List.set_cons_zero, List.set_cons_succ, qRaise, qFor, qRng1, qRng2, qTup, qLst, qPar, eqD_int, eqD_str, eqD_bl, itD_lst, itD_tup, itD_dic, lenD_lst, lenD_tup, lenD_dic, dicD_dic, lstD_lst, seqD_lst, seqD_tup, qSl, qoNone, qoSome, qRevL, qLrg1, qLrg2, qCX, qKw, qKwX, List.length_cons, List.length_nil, List.map_cons, List.map_nil, qAsgG, gTupQ, gConsQ, gSubT, gNilQ, qTGet, qDcT, kkT, qNewT, qNewK, List.length_map, Int.toNat_natCast, ditD_mut, qIx_tup, qIx_lst, keysT_2, Bool.or_true, Bool.true_or, Int.zero_add, isN_tup, isN_lst, isN_int, isN_dic, isN_non, at_zero, qMeth, qAddL, qMulL, rTupQ, qCBw, qLX, qLKw, qMet, pick_0, pick_10, qFz, qFzN, qDispF, qNewF, qDictF, qpCons, qpNil, qDispB, qDispT, keyPs, obD, qEqV, gSubQ, qNegI, qMets, at4_0, at4_1, at4_2, at4_3, ix4_1, ix4_2, ix4_3])
local macro_rules | `(tactic| walk_at "rs") => `(tactic| simp only [qVar_z, qVar_s, qC, qNext, qRet, qRetN, qIfS, qTest, qIs, qOp, qUn, qAnd, qOr, qNot, qAndV, qOrV, qNotV, qCB, qCons, qNil, okQ_some, okQ_none, qIf, qChain, qI, qIC, r1_rd, r2_rd, Qd.rLen, qLc, qIt, rAllQ, rAnyQ, rSumQ, rMinQ, rMaxQ, rAbsQ, rIntQ, newL_f, newL_t, Bool.false_eq_true, if_false, qInS, qEq, qNe, qIsN, qNotN, qDrop, if_true, qDcB, qFill, kkB, qDGet, kkK, qDcK, qFzD, qAsg, tset_nm, tset_tp, tsets_nil, tsets_nm, tsets_tp, wipe_nil, wipe_cons, List.set_cons_zero, List.set_cons_succ, qRaise, qFor, qRng1, qRng2, qTup, qLst, qPar, eqD_int, eqD_str, eqD_bl, itD_lst, itD_tup, itD_dic, lenD_lst, lenD_tup, lenD_dic, dicD_dic, lstD_lst, seqD_lst, seqD_tup, qSl, qoNone, qoSome, qRevL, qLrg1, qLrg2, qCX, qKw, qKwX, List.length_cons, List.length_nil, List.map_cons, List.map_nil, qAsgG, gTupQ, gConsQ, gSubT, gNilQ, qTGet, qDcT, kkT, qNewT, qNewK, List.length_map, Int.toNat_natCast, ditD_mut, qIx_tup, qIx_lst, keysT_2, Bool.or_true, Bool.true_or, Int.zero_add, isN_tup, isN_lst, isN_int, isN_dic, isN_non, at_zero, qMeth, qAddL, qMulL, rTupQ, qCBw, qLX, qLKw, qMet, pick_0, pick_10, qFz, qFzN, qDispF, qNewF, qDictF, qpCons, qpNil, qDispB, qDispT, keyPs, obD, qEqV, gSubQ, qNegI, qMets, at4_0, at4_1, at4_2, at4_3, ix4_1, ix4_2, ix4_3])
section
variable {P : Program} {w : World} {K : PySem.W.Frag} {mg : Str → Option Value} {base : Heap}
/-- the items of a list, frozen or not (then no part of the stream) -/
def Its (A : MH) (a b : Addr) (d : D) (xs : List D) : Prop := d = .lst xs ∨ d = .tup xs ∨ ∃ c, d = .mut c ∧ c ≠ a ∧ c ≠ b ∧ A c = some (.lst xs)
theorem Its.len {A : MH} {a b : Addr} {d : D} {xs : List D} (h : Its A a b d xs) : lenD A d = some xs.length := by
  rcases h with rfl | rfl | ⟨c, rfl, _, _, h⟩
  · rfl
  · rfl
  · show (match A c with | some (.lst xs) => some xs.length | some (.dic kvs) => some kvs.length | _ => none) = _
    rw [h]
theorem Its.off {A A' : MH} {a b : Addr} {d : D} {xs : List D} (h : Its A a b d xs) (o : Off a b A A') : Its A' a b d xs := by
  rcases h with rfl | rfl | ⟨c, rfl, h1, h2, h⟩
  · exact .inl rfl
  · exact .inr (.inl rfl)
  · exact .inr (.inr ⟨c, rfl, h1, h2, by rw [o c h1 h2]; exact h⟩)
theorem Its.ix {A : MH} {a b : Addr} {d : D} {xs : List D} {i : Int} {P : KQ} (h : Its A a b d xs) (q : okQ (L2.atI xs i) fun x => P x A) : qIx d (.int i) A P := by
  rcases h with rfl | rfl | ⟨c, rfl, _, _, h⟩
  · exact q
  · exact q
  · rw [qIx_mut h]; exact q
def r_pick : RNQ := fun ds A P => ∃ (a b : Addr) (n : Nat) (t : D) (xs : List D), ds = [.mut a, t] ∧ Its A a b t xs ∧ 0 < xs.length ∧ xs.length ≤ 100000 ∧ Strm A a b n ∧ n < maxDraws ∧ ∀ (i : Nat) x A', xs[i]? = some x → Strm A' a b (n + 1) → Off a b A A' → P x A'
theorem d__law_pick (Z : Nv K mg) : Def P w K mg base 2 "_law_pick" (defArgs s__law_pick) ["stream", "things"] r_pick := mkDef Z.f__law_pick (fun f fd F => by
  have S := sc__law_pick
  refine def_okS F S (by rintro ds A P ⟨a, b, n, t, xs, rfl, _⟩; rfl) fun cdv A outer s H E tb hr => ?_
  have G__law_draw := d__law_draw (P := P) (w := w) (base := base) Z
  have HR__law_draw := hr
  refine ⟨_, (psq_one (psq_ret (pq_ix (qv 1) (pq_fn G__law_draw HR__law_draw (paq_cons (qv 0) (paq_cons (pq_bi cq_len Z.b_len (paq_cons (qv 1) paq_nil)) paq_nil)))))), ?_⟩
  rintro ds A P ⟨a, b, n, t, xs, rfl, ht, h0, hl, hs, hn, h⟩
  rw [show startQ ["stream", "things"] [D.mut a, t] = [some (D.mut a), some (t)] from rfl]
  walk_at "rd"
  rw [ht.len, okQ_some]
  refine ⟨a, b, n, _, rfl, by omega, by omega, hs, hn, fun z A' hz0 hz1 hs' ho => (ht.off ho).ix ?_⟩
  obtain ⟨i, rfl⟩ := Int.eq_ofNat_of_zero_le hz0
  have hi : i < xs.length := by omega
  rw [at_nat, List.getElem?_eq_getElem hi, okQ_some]
  exact ⟨A', Shr.refl _, h i _ A' (List.getElem?_eq_getElem hi) hs' ho⟩) (fun _ _ _ _ _ _ us hl => match us, hl with | [_, _], _ => rfl)
def r_mixed : RNQ := fun ds A P => ∃ (a b : Addr) (n : Nat) (xs : List D), ds = [.mut a, .lst xs] ∧ xs.length ≤ 1000 ∧ Strm A a b n ∧ n + xs.length < maxDraws ∧ ∀ ys A', ys.Perm xs → Strm A' a b (n + xs.length) → Off a b A A' → P (.lst ys) A'
theorem d__law_mixed (Z : Nv K mg) : Def P w K mg base 2 "_law_mixed" (defArgs s__law_mixed) ["stream", "things"] r_mixed := mkDef Z.f__law_mixed (fun f fd F => by
  have S := sc__law_mixed
  refine def_okS F S (by rintro ds A P ⟨a, b, n, xs, rfl, _⟩; rfl) fun cdv A outer s H E tb hr => ?_
  have G__law_draw := d__law_draw (P := P) (w := w) (base := base) Z
  have HR__law_draw := hr
  refine ⟨_, (psq_cons (psq_par (i := 2) (j := 3) rfl S.nd (by decide) (paq_cons (pq_bt (cq_list true rfl) Z.b_list (paq_cons (qv 1) paq_nil)) (paq_cons (pq_lst true paq_nil) paq_nil))) (psq_cons (psq_for PassesOwn.never rfl (piq_rng1 Z.b_range (paq_cons (pq_bi cq_len Z.b_len (paq_cons (qv 2) paq_nil)) paq_nil)) (gq_nm 4 S.nd) (psq_one (psq_expr (pq_append (qv 3) (paq_cons (pq_pop (qv 2) (paq_cons (pq_fn G__law_draw HR__law_draw (paq_cons (qv 0) (paq_cons (pq_bi cq_len Z.b_len (paq_cons (qv 2) paq_nil)) paq_nil))) paq_nil)) paq_nil))))) (psq_one (psq_ret (pq_fz (qv 3)))))), ?_⟩
  rintro ds A P ⟨a, b, n, xs, rfl, hl, hs, hn, h⟩
  rw [show startQ ["stream", "things", "left", "found", "k"] [D.mut a, D.lst xs] = [some (D.mut a), some (D.lst xs), none, none, none] from rfl]
  walk_at "rd"
  refine rList_seq rfl ?_
  walk_at "rd"
  intro l hl0
  refine ⟨by decide, fun g hg0 => ?_⟩
  have hgl : g ≠ l := fun z => by subst z; rw [MH.set_same] at hg0; cases hg0
  rw [MH.set_ne hgl] at hg0
  obtain ⟨la, lb⟩ := hs.ne hl0
  obtain ⟨ga, gb⟩ := hs.ne hg0
  rw [len_mut (at2 hgl), okQ_some]
  refine ⟨⟨by omega, by omega⟩, ?_⟩
  refine runL_rng (fun i s' A' => ∃ (x4 : Option D) (us ys : List D), s' = [some (D.mut a), some (D.lst xs), some (D.mut l), some (D.mut g), x4] ∧ A' l = some (.lst us) ∧ A' g = some (.lst ys) ∧ (us ++ ys).Perm xs ∧ ys.length = i ∧ Strm A' a b (n + i) ∧ ∀ q, q ≠ a → q ≠ b → q ≠ l → q ≠ g → A' q = A q) ?_ ?_ ?_
  · exact ⟨none, xs, [], rfl, at2 hgl, MH.set_same, by rw [List.append_nil], rfl, (hs.set la lb).set ga gb, fun q _ _ h3 h4 => by rw [MH.set_ne h4, MH.set_ne h3]⟩
  · rintro i s' A' N hi ⟨x4, us, ys, rfl, hl1, hg1, hp, rfl, hs1, ho⟩ next
    have hlen := hp.length_eq
    rw [List.length_append] at hlen
    walk_at "rd"
    rw [isLm_mut hg1]
    refine ⟨trivial, ?_⟩
    rw [isLm_mut hl1, len_mut hl1, okQ_some]
    refine ⟨trivial, a, b, n + ys.length, _, rfl, by omega, by omega, hs1, by omega, fun z A2 hz0 hz1 hs2 ho2 => ?_⟩
    have hl2 : A2 l = some (.lst us) := by rw [ho2 l la lb]; exact hl1
    have hg2 : A2 g = some (.lst ys) := by rw [ho2 g ga gb]; exact hg1
    show rPopQ (.mut l) [.int z] A2 _
    rw [pop_mut hl2]
    obtain ⟨j, rfl⟩ := Int.eq_ofNat_of_zero_le hz0
    have hj : j < us.length := by omega
    refine ⟨hz0, by omega, ?_⟩
    rw [Int.toNat_natCast, List.getElem?_eq_getElem hj, okQ_some]
    rw [app_mut (show (A2.set l _) g = some (.lst ys) by rw [MH.set_ne hgl]; exact hg2)]
    refine ⟨by omega, next _ _ ⟨_, us.eraseIdx j, ys ++ [us[j]], rfl, ?_, MH.set_same, ?_, by rw [List.length_append]; rfl, ((hs2.set la lb).set ga gb), fun q h1 h2 h3 h4 => ?_⟩⟩
    · rw [MH.set_ne (Ne.symm hgl), MH.set_same]
    · refine List.Perm.trans ?_ hp
      have e1 : (us[j] :: us.eraseIdx j).Perm us := perm_erase us j hj
      have e2 : (us.eraseIdx j ++ (ys ++ [us[j]])).Perm (us[j] :: (us.eraseIdx j ++ ys)) := by
        rw [← List.append_assoc]
        exact List.perm_append_comm
      exact e2.trans (List.Perm.append_right ys e1)
    · rw [MH.set_ne h4, MH.set_ne h3, ho2 q h1 h2]
      exact ho q h1 h2 h3 h4
  · rintro s' A' ⟨x4, us, ys, rfl, hl1, hg1, hp, hy, hs1, ho⟩
    have hlen := hp.length_eq
    rw [List.length_append] at hlen
    have hu : us = [] := List.length_eq_zero_iff.mp (by omega)
    subst hu
    walk_at "rd"
    rw [hg1]
    refine ⟨fun q => if q = l ∨ q = g then none else A' q, fun q o e => ?_, h ys _ hp (hs1.at ?_ ?_) fun q h1 h2 => ?_⟩
    · by_cases hq : q = l ∨ q = g
      · simp [hq] at e
      · simp only [hq, if_false] at e
        rw [MH.del_ne (fun z => hq (.inr z))]
        exact e
    · show (if a = l ∨ a = g then none else A' a) = A' a
      rw [if_neg (fun z => z.elim (fun z => la z.symm) fun z => ga z.symm)]
    · show (if b = l ∨ b = g then none else A' b) = A' b
      rw [if_neg (fun z => z.elim (fun z => lb z.symm) fun z => gb z.symm)]
    · show (if q = l ∨ q = g then none else A' q) = A q
      by_cases hq : q = l
      · rw [if_pos (.inl hq), hq, hl0]
      · by_cases hq2 : q = g
        · rw [if_pos (.inr hq2), hq2, hg0]
        · rw [if_neg (fun z => z.elim hq hq2)]
          exact ho q h1 h2 hq hq2) (fun _ _ _ _ _ _ us hl => match us, hl with | [_, _], _ => rfl)
def r_same (n : Nat) : RNQ := fun ds A P => ∃ d, ds = [d, d] ∧ plD d = true ∧ dep d < n ∧ P (.bl true) A
theorem d__law_same (Z : Nv K mg) : ∀ n : Nat, Def P w K mg base (n + 1) "_law_same" (defArgs s__law_same) ["found", "due"] (r_same n)
  | 0 => mkDef Z.f__law_same (fun f fd F => by
    have S := sc__law_same
    refine def_okS F S (by rintro ds A P ⟨d, rfl, _⟩; rfl) fun cdv A outer s H E tb hr => ⟨_, pss_never, ?_⟩
    rintro ds A P ⟨d, rfl, _, h, _⟩
    exact absurd h (Nat.not_lt_zero _)) (fun _ _ _ _ _ _ us hl => match us, hl with | [_, _], _ => rfl)
  | n + 1 => mkDef Z.f__law_same (fun f fd F => by
    have S := sc__law_same
    refine def_okS F S (by rintro ds A P ⟨d, rfl, _⟩; rfl) fun cdv A outer s H E tb hr => ?_
    have G__law_same := d__law_same Z n
    have HR__law_same := hr
    refine ⟨_, (psq_cons (psq_if (ptq_val (pq_istN (qv 1) (.cons (c := .lst) (pq_ty Z.b_list) rfl (.cons (c := .tup) (pq_ty Z.b_tuple) rfl .nil)) Z.b_isinstance)) (psq_cons (psq_if (PWQ.pt (pwq_or (ptq_ne hr.units (pq_ist1 .lst (qv 0) (pq_ty Z.b_list) Z.b_isinstance) (pq_ist1 .lst (qv 1) (pq_ty Z.b_list) Z.b_isinstance)) (pwq_or1 (ptq_ne hr.units (pq_ist1 .tup (qv 0) (pq_ty Z.b_tuple) Z.b_isinstance) (pq_ist1 .tup (qv 1) (pq_ty Z.b_tuple) Z.b_isinstance))))) (psq_one (psq_ret pq_bl)) psq_nil) (psq_one (psq_ret (pq_and (pq_eq hr.units (pq_bi cq_len Z.b_len (paq_cons (qv 0) paq_nil)) (pq_bi cq_len Z.b_len (paq_cons (qv 1) paq_nil))) (pq_one (pq_bi (cq_all rfl) Z.b_all (paq_cons (pq_lc false rfl S.nd (piq_zip Z.b_zip (paq_cons (qv 0) (paq_cons (qv 1) paq_nil))) (blkOk_by (N := ["found", "due", "mine", "theirs"]) (sc := defScope s__law_same) (own := [("mine", 2), ("theirs", 3)]) (by decide +kernel)) (fun _ _ _ _ _ => (gq_tp rfl (gqs_cons (gq_nm 2 S.nd) (gqs_cons (gq_nm 3 S.nd) gqs_nil)))) (fun _ _ _ _ _ => qts_nil) (fun _ _ _ _ _ => (pq_fn G__law_same HR__law_same (paq_cons (qv 2) (paq_cons (qv 3) paq_nil))))) paq_nil))))))) psq_nil) (psq_cons (psq_if (ptq_val (pq_ist1 .dic (qv 1) (pq_ty Z.b_dict) Z.b_isinstance)) (psq_one (psq_ret (pq_and (pq_ist1 .dic (qv 0) (pq_ty Z.b_dict) Z.b_isinstance) (pq_one (pq_fn G__law_same HR__law_same (paq_cons (pq_items false rfl (qv 0) Z.b_list) (paq_cons (pq_items false rfl (qv 1) Z.b_list) paq_nil))))))) psq_nil) (psq_cons (psq_if (PWQ.pt (pwq_or (ptq_val (pq_ist1 .bl (qv 1) (pq_ty Z.b_bool) Z.b_isinstance)) (pwq_or1 (ptq_val (pq_ist1 .bl (qv 0) (pq_ty Z.b_bool) Z.b_isinstance))))) (psq_one (psq_ret (pq_and (pq_ist1 .bl (qv 1) (pq_ty Z.b_bool) Z.b_isinstance) (pq_and (pq_ist1 .bl (qv 0) (pq_ty Z.b_bool) Z.b_isinstance) (pq_one (pq_eq hr.units (qv 0) (qv 1))))))) psq_nil) (psq_cons (psq_if (PWQ.pt (pwq_or (ptq_isN (qv 1) pq_non) (pwq_or1 (ptq_isN (qv 0) pq_non)))) (psq_one (psq_ret (pq_and (pq_isN (qv 1) pq_non) (pq_one (pq_isN (qv 0) pq_non))))) psq_nil) (psq_cons (psq_if (PWQ.pt (pwq_or (ptq_ne hr.units (pq_ist1 .int (qv 1) (pq_ty Z.b_int) Z.b_isinstance) (pq_ist1 .int (qv 0) (pq_ty Z.b_int) Z.b_isinstance)) (pwq_or1 (ptq_ne hr.units (pq_ist1 .str (qv 1) (pq_ty Z.b_str) Z.b_isinstance) (pq_ist1 .str (qv 0) (pq_ty Z.b_str) Z.b_isinstance))))) (psq_one (psq_ret pq_bl)) psq_nil) (psq_one (psq_ret (pq_and (pq_not (pq_istN (qv 0) (.cons (c := .lst) (pq_ty Z.b_list) rfl (.cons (c := .tup) (pq_ty Z.b_tuple) rfl (.cons (c := .dic) (pq_ty Z.b_dict) rfl .nil))) Z.b_isinstance)) (pq_one (pq_eq hr.units (qv 0) (qv 1))))))))))), ?_⟩
    rintro ds A P ⟨d, rfl, hp, hd, h⟩
    rw [show startQ ["found", "due", "mine", "theirs"] [d, d] = [some (d), some (d), none, none] from rfl]
    walk_at "rd"
    have seqs : ∀ (xs : List D) (Q : D → MH → Prop), plDs xs = true → deps xs < n → xs.length ≤ 100000 → Q (.bl true) A → compL (Tgt.tp [Tgt.nm 2, Tgt.nm 3]) qYes (qCB (r_same n) (qCons (qVar 2) (qCons (qVar 3) qNil))) [some d, some d, none, none] (pairL xs xs) [] A fun out A2 => okQ ((some out).bind blsD) fun bs => Q (.bl (bs.all id)) A2 := fun xs Q hx hdx hl hQ => by
      refine compL_map (fun _ => some (.bl true)) (pairL xs xs) [] (by rw [pairL_length]; simp; omega) (fun y hy Q2 hQ2 => ?_) (okQ_mk (z := (xs.map fun _ => true).map .bl) ?_ ?_)
      · unfold pairL at hy
        obtain ⟨p, hp2, rfl⟩ := List.mem_map.mp hy
        obtain ⟨x, hx2, rfl⟩ : ∃ x, x ∈ xs ∧ p = (x, x) := by
          obtain ⟨i, hi⟩ := List.getElem?_of_mem hp2
          rw [List.getElem?_zip_eq_some] at hi
          obtain ⟨h1, h2⟩ := hi
          rw [h1] at h2
          exact ⟨p.1, List.mem_of_getElem? h1, by cases p; simp at h2 ⊢; exact h2.symm⟩
        walk_at "rd"
        exact ⟨x, rfl, plDs_all.mp hx x hx2, Nat.lt_of_le_of_lt (deps_le hx2) hdx, hQ2⟩
      · have : pairL xs xs = (xs.zip xs).map fun p => .tup [p.1, p.2] := rfl
        rw [this, mapO_of_map]
        have := @mapO_map (D × D) D (D × D) (fun _ => some (.bl true)) id (fun _ => .bl true) (xs.zip xs) (fun _ _ => rfl)
        rw [List.map_id] at this
        rw [this, List.map_map]
        congr 1
        refine List.ext_getElem (by simp) fun i h1 h2 => by simp
      · rw [show (some ([] ++ (xs.map fun _ => true).map D.bl)).bind blsD = some (xs.map fun _ => true) from blsD_map _, okQ_some]
        have : (xs.map fun _ => true).all id = true := by simp
        rw [this]
        exact hQ
    cases d with
    | non => exact ⟨A, Shr.refl _, h⟩
    | bl b =>
      simp (decide := true) only [tyQ, okQ_some, if_false, if_true, isN, eqD_bl]
      exact ⟨A, Shr.refl _, h⟩
    | int i =>
      simp (decide := true) only [tyQ, okQ_some, if_false, if_true, isN, eqD_int]
      exact ⟨A, Shr.refl _, h⟩
    | str x =>
      simp (decide := true) only [tyQ, okQ_some, if_false, if_true, isN, eqD_str]
      exact ⟨A, Shr.refl _, h⟩
    | ty => cases hp
    | fn => cases hp
    | frl => cases hp
    | lam => cases hp
    | tup xs =>
      have hb := seqF_big (d := .tup xs) rfl hp
      simp (decide := true) only [tyQ, okQ_some, if_false, if_true, isN, lenD_tup, Int.natCast_inj, decide_true]
      exact seqs xs (fun d A' => ∃ A2, Shr A2 A' ∧ P d A2) (seqF_pl (d := .tup xs) rfl hp) (by rw [dep] at hd; omega) hb ⟨A, Shr.refl _, h⟩
    | lst xs =>
      have hb := seqF_big (d := .lst xs) rfl hp
      simp (decide := true) only [tyQ, okQ_some, if_false, if_true, isN, lenD_lst, Int.natCast_inj, decide_true]
      exact seqs xs (fun d A' => ∃ A2, Shr A2 A' ∧ P d A2) (seqF_pl (d := .lst xs) rfl hp) (by rw [dep] at hd; omega) hb ⟨A, Shr.refl _, h⟩
    | dic kvs =>
      simp (decide := true) only [tyQ, okQ_some, if_false, if_true]
      have hb := Bool.and_eq_true_iff.mp hp
      rw [dep] at hd
      have e1 := items_dep (ps := kvs.map fun p => (kD p.1, p.2))
      rw [depK_P] at e1
      refine ⟨_, rfl, ?_, ?_, A, Shr.refl _, h⟩
      · rw [plD, items_pl (plKs_P hb.2), Bool.and_true, List.length_map, List.length_map]; exact hb.1
      · rw [dep]; omega
    | gdc kvs =>
      simp (decide := true) only [tyQ, okQ_some, if_false, if_true]
      have hb := Bool.and_eq_true_iff.mp hp
      rw [dep] at hd
      have e1 := items_dep (ps := kvs)
      refine ⟨_, rfl, ?_, ?_, A, Shr.refl _, h⟩
      · rw [plD, items_pl hb.2, Bool.and_true, List.length_map]; exact hb.1
      · rw [dep]; omega
    | «mut» => cases hp) (fun _ _ _ _ _ _ us hl => match us, hl with | [_, _], _ => rfl)
/-! copied: the same anew -/
def r_copied (n : Nat) : RNQ := fun ds A P => ∃ d, ds = [d] ∧ datD d = true ∧ nod d ≤ 100000 ∧ dep d < n ∧ P d A
/-! loose: lists for tuples and the other way about -/
def r_loose (n : Nat) : RNQ := fun ds A P => ∃ (a b : Addr) (k : Nat) (d : D), ds = [.mut a, d] ∧ datD d = true ∧ nod d ≤ 100000 ∧ dep d < n ∧ Strm A a b k ∧ k + nod d ≤ maxDraws ∧ ∀ e A', Loo d e → Strm A' a b (k + nod d) → Off a b A A' → P e A'
def r_isnum : RNQ := fun ds A P => ∃ (d : D) (m : Int), ds = [d, .int m] ∧ plD d = true ∧ ∀ b : Bool, (b = true ↔ ∃ i : Int, d = .int i ∧ 0 ≤ i ∧ i < m) → P (.bl b) A
mutual
/-- no tuple in it -/
def noT : D → Bool
  | .tup _ => false
  | .lst xs => noTs xs
  | _ => true
def noTs : List D → Bool
  | [] => true
  | x :: xs => noT x && noTs xs
end
theorem noTs_all {xs : List D} : noTs xs = true ↔ ∀ x ∈ xs, noT x = true := by
  induction xs with
  | nil => exact ⟨fun _ x h => (by cases h), fun _ => rfl⟩
  | cons a r ih =>
    rw [noTs, Bool.and_eq_true, ih]
    constructor
    · rintro ⟨h1, h2⟩ x hx
      exact (List.mem_cons.mp hx).elim (fun e => e ▸ h1) (h2 x)
    · exact fun h => ⟨h a (List.mem_cons_self ..), fun x hx => h x (List.mem_cons_of_mem _ hx)⟩
def r_bent (n : Nat) : RNQ := fun ds A P => ∃ (a b : Addr) (k : Nat) (d : D) (os : List D), ds = [.mut a, d, .lst os] ∧ datD d = true ∧ noT d = true ∧ nod d ≤ 10000 ∧ dep d < n ∧ 0 < os.length ∧ os.length ≤ 1000 ∧ (∀ o ∈ os, datD o = true ∧ nod o ≤ 3 ∧ dep o ≤ 1) ∧ Strm A a b k ∧ k + 4 * n ≤ maxDraws ∧ ∀ e A', datD e = true → nod e ≤ 2 * nod d + 4 → dep e ≤ dep d + 1 → Strm A' a b (k + 4 * n) → Off a b A A' → P e A'
/-- symbols, as keys -/
def SymsOk (ks : List Key) : Prop := ((∃ is : List Int, ks = is.map .inl ∧ ∀ i ∈ is, 0 ≤ i ∧ i ≤ 255) ∨ ∃ ss : List Str, ks = ss.map .inr ∧ ∀ x ∈ ss, symS x = true) ∧ ks.Nodup ∧ ks ≠ []
theorem SymsOk.one {ks : List Key} (h : SymsOk ks) : OneSort ks := h.1.elim (fun ⟨is, e, _⟩ => .inl ⟨is, e⟩) fun ⟨ss, e, _⟩ => .inr ⟨ss, e⟩
theorem SymsOk.perm {ks ls : List Key} (h : SymsOk ks) (p : ls.Perm ks) : SymsOk ls := by
  refine ⟨?_, p.nodup_iff.mpr h.2.1, fun z => h.2.2 (by subst z; exact List.nil_perm.mp p)⟩
  rcases h.1 with ⟨is, rfl, hi⟩ | ⟨ss, rfl, hi⟩
  · obtain ⟨js, rfl, q⟩ := perm_map_inl p
    exact .inl ⟨js, rfl, fun i h => hi i (q.mem_iff.mp h)⟩
  · obtain ⟨js, rfl, q⟩ := perm_map_inr p
    exact .inr ⟨js, rfl, fun i h => hi i (q.mem_iff.mp h)⟩
def twelve : List Str := ["a", "b", "c", "add", "set", "jump", "z", "ab", "ba", "zero", "halt", "moveload"]
theorem twelve_sym : ∀ x ∈ twelve, symS x = true := by decide +kernel
theorem twelve_nd : twelve.Nodup := by decide +kernel
def r_syms : RNQ := fun ds A P => ∃ (a b : Addr) (k m : Nat), ds = [.mut a, .int m] ∧ 0 < m ∧ m ≤ 12 ∧ Strm A a b k ∧ k + 40 ≤ maxDraws ∧ ∀ ks A', SymsOk ks → ks.length = m → Strm A' a b (k + 40) → Off a b A A' → P (.lst (ks.map kD)) A'
theorem d__law_e_symbols (Z : Nv K mg) : Def P w K mg base 3 "_law_e_symbols" (defArgs s__law_e_symbols) ["stream", "many"] r_syms := mkDef Z.f__law_e_symbols (fun f fd F => by
  have S := sc__law_e_symbols
  refine def_okS F S (by rintro ds A P ⟨a, b, k, m, rfl, _⟩; rfl) fun cdv A outer s H E tb hr => ?_
  have G__law_draw := d__law_draw (P := P) (w := w) (base := base) Z
  have HR__law_draw := hr.mono (show 1 ≤ 2 by decide)
  have G__law_mixed := d__law_mixed (P := P) (w := w) (base := base) Z
  have HR__law_mixed := hr
  refine ⟨_, (psq_cons (psq_if (ptq_eq hr.units (pq_fn G__law_draw HR__law_draw (paq_cons (qv 0) (paq_cons pq_int paq_nil))) pq_int) (psq_one (psq_ret (pq_fn G__law_mixed HR__law_mixed (paq_cons (qv 0) (paq_cons (pq_lc false rfl S.nd (piq_rng1 Z.b_range (paq_cons (qv 1) paq_nil)) (blkOk_by (N := ["stream", "many", "k"]) (sc := defScope s__law_e_symbols) (own := [("k", 2)]) (by decide +kernel)) (fun _ _ _ _ _ => (gq_nm 2 S.nd)) (fun _ _ _ _ _ => qts_nil) (fun _ _ _ _ _ => (pq_addI (pq_mulI pq_int (qv 2)) (pq_fn G__law_draw HR__law_draw (paq_cons (qv 0) (paq_cons pq_int paq_nil)))))) paq_nil))))) psq_nil) (psq_one (psq_ret (pq_slice false (pq_fn G__law_mixed HR__law_mixed (paq_cons (qv 0) (paq_cons (pq_lst false (paq_cons pq_str (paq_cons pq_str (paq_cons pq_str (paq_cons pq_str (paq_cons pq_str (paq_cons pq_str (paq_cons pq_str (paq_cons pq_str (paq_cons pq_str (paq_cons pq_str (paq_cons pq_str (paq_cons pq_str paq_nil))))))))))))) paq_nil))) poq_none (poq_some (qv 1)))))), ?_⟩
  rintro ds A P ⟨a, b, k, m, rfl, hm0, hm1, hs, hk, h⟩
  rw [show startQ ["stream", "many", "k"] [D.mut a, D.int m] = [some (D.mut a), some (D.int m), none] from rfl]
  refine qSeq_st fun N1 n1 => ?_
  walk_at "rs"
  refine ⟨a, b, k, 2, rfl, by decide, by decide, hs, by omega, fun z A1 hz0 hz1 hs1 ho1 => ?_⟩
  walk_at "rs"
  by_cases hz : z = 0
  · rw [if_pos (decide_eq_true hz)]
    refine ⟨⟨by omega, by omega⟩, ?_⟩
    refine compL_st (fun i A' => Strm A' a b (k + 1 + i) ∧ Off a b A A') (fun i _ y => ∃ z : Int, y = .int z ∧ 3 * (i : Int) ≤ z ∧ z < 3 * (i : Int) + 3) (by rw [rngD_len]; omega) ⟨hs1, ho1⟩ ?_ ?_
    · rintro i x A' hx ⟨hs2, ho2⟩ Q hQ
      obtain ⟨hi, rfl⟩ := rngD_get hx
      rw [Int.zero_add]
      walk_at "rs"
      refine ⟨.inl ⟨by decide, by decide⟩, a, b, _, 3, rfl, by decide, by decide, hs2, by omega, fun z A2 z0 z1 hs3 ho3 => hQ _ A2 ⟨_, rfl, by omega, by omega⟩ ⟨hs3.up (by omega), ho2.trans ho3⟩⟩
    · rintro out A2 hl hr ⟨hs2, ho2⟩
      rw [rngD_len] at hl hs2
      obtain ⟨is, rfl, hi⟩ := ints_of (R := fun i z => 3 * (i : Int) ≤ z ∧ z < 3 * (i : Int) + 3) fun i y hy => hr i _ y (rngD_at (by have := (List.getElem?_eq_some_iff.mp hy).1; omega)) hy
      rw [List.length_map] at hl
      refine ⟨a, b, _, _, rfl, by rw [List.length_map]; omega, hs2, by rw [List.length_map]; omega, fun ys A3 hp hs3 ho3 => ?_⟩
      obtain ⟨js, rfl, hq⟩ := perm_map hp is rfl
      have nd : is.Nodup := nodup_get fun i j x hij h1 h2 => by
        have a1 := hi i x h1
        have a2 := hi j x h2
        omega
      refine ⟨A3, Shr.refl _, ?_⟩
      have := h (js.map .inl) A3 ⟨.inl ⟨js, rfl, fun x hx => ?_⟩, nodup_map (fun a b e => by injection e) (hq.nodup_iff.mpr nd), fun z => ?_⟩ ?_ (hs3.up (by rw [List.length_map]; omega)) (ho2.trans ho3)
      · rw [List.map_map] at this
        exact this
      · obtain ⟨i, hix⟩ := List.getElem?_of_mem (hq.mem_iff.mp hx)
        have := hi i x hix
        have := (List.getElem?_eq_some_iff.mp hix).1
        omega
      · rw [List.map_eq_nil_iff] at z
        subst z
        rw [List.nil_perm.mp hq] at hl
        simp at hl; omega
      · rw [List.length_map, hq.length_eq, hl]
  · rw [if_neg (by rw [decide_eq_false hz]; decide)]
    refine n1 _ _ ?_
    walk_at "rs"
    refine ⟨by decide, a, b, _, twelve.map .str, rfl, by decide, hs1, by rw [List.length_map]; show k + 1 + 12 < _; omega, fun ys A2 hp hs2 ho2 => ?_⟩
    obtain ⟨ss, rfl, hq⟩ := perm_map hp twelve rfl
    walk_at "rs"
    rw [cut_take, ← List.map_take]
    refine ⟨A2, Shr.refl _, ?_⟩
    have hsl : ss.length = 12 := hq.length_eq
    have := h ((ss.take m).map .inr) A2 ⟨.inr ⟨ss.take m, rfl, fun x hx => twelve_sym x (hq.mem_iff.mp (List.mem_of_mem_take hx))⟩, nodup_map (fun a b e => by injection e) ((hq.nodup_iff.mpr twelve_nd).sublist (List.take_sublist _ _)), fun z => ?_⟩ (by rw [List.length_map, List.length_take]; omega) (hs2.up (by rw [List.length_map]; show k + 1 + 12 ≤ _; omega)) (ho1.trans ho2)
    · rw [List.map_map] at this
      exact this
    · have := congrArg List.length z
      rw [List.length_map, List.length_take, List.length_nil] at this
      omega) (fun _ _ _ _ _ _ us hl => match us, hl with | [_, _], _ => rfl)
def r_shuf : RNQ := fun ds A P => ∃ (a b : Addr) (k : Nat) (ks : List Key) (v : Key → D), ds = [.mut a, .dic (tabK ks v)] ∧ OneSort ks ∧ ks ≠ [] ∧ ks.Nodup ∧ ks.length < 64 ∧ Strm A a b k ∧ k + 100 ≤ maxDraws ∧ ∀ ls A', ls.Perm ks → Strm A' a b (k + 100) → Off a b A A' → P (.dic (tabK ls v)) A'
theorem d__law_e_shuffled (Z : Nv K mg) : Def P w K mg base 3 "_law_e_shuffled" (defArgs s__law_e_shuffled) ["stream", "thing"] r_shuf := mkDef Z.f__law_e_shuffled (fun f fd F => by
  have S := sc__law_e_shuffled
  refine def_okS F S (by rintro ds A P ⟨a, b, k, ks, v, rfl, _⟩; rfl) fun cdv A outer s H E tb hr => ?_
  have G__law_mixed := d__law_mixed (P := P) (w := w) (base := base) Z
  have HR__law_mixed := hr
  refine ⟨_, (psq_one (psq_ret (pq_fzD (pq_bt (cq_dict rfl) Z.b_dict (paq_cons (pq_lc false rfl S.nd (piq_it (pq_fn G__law_mixed HR__law_mixed (paq_cons (qv 0) (paq_cons (pq_bi (cq_sorted false rfl) Z.b_sorted (paq_cons (qv 1) paq_nil)) paq_nil)))) (blkOk_by (N := ["stream", "thing", "key"]) (sc := defScope s__law_e_shuffled) (own := [("key", 2)]) (by decide +kernel)) (fun _ _ _ _ _ => (gq_nm 2 S.nd)) (fun _ _ _ _ _ => qts_nil) (fun _ _ _ _ _ => (pq_tup (paq_cons (qv 2) (paq_cons (pq_dget (hu_of hr) (qv 1) (qv 2) (fun _ _ => rfl)) paq_nil))))) paq_nil))))), ?_⟩
  rintro ds A P ⟨a, b, k, ks, v, rfl, hone, h0, hnd, hlen, hs, hk, h⟩
  rw [show startQ ["stream", "thing", "key"] [D.mut a, D.dic (tabK ks v)] = [some (D.mut a), some (D.dic (tabK ks v)), none] from rfl]
  walk_at "rd"
  refine rSort_dic (sort_tab hone h0) (by rw [tabK_length]; exact hlen) ?_
  have pk := srtK_perm hone
  have lk := pk.length_eq
  refine ⟨a, b, _, _, rfl, by rw [List.length_map]; omega, hs, by rw [List.length_map]; omega, fun ys A1 hp hs1 ho1 => ?_⟩
  obtain ⟨ls, rfl, hq⟩ := perm_map hp _ rfl
  have hq2 := hq.trans pk
  walk_at "rd"
  refine compL_of kD (fun k => .tup [kD k, v k]) ls (by have := hq2.length_eq; omega) (fun x hx Q hQ => ?_) ?_
  · walk_at "rd"
    rw [keyD_k]
    walk_at "rd"
    rw [getA_tabK (hq2.mem_iff.mp hx)]
    exact ⟨Nat.le_of_ble_eq_true rfl, hQ⟩
  · have nd2 := hq2.nodup_iff.mpr hnd
    refine rDict_lst (pairsD_tab ls) ?_
    rw [mergeA_tabK nd2]
    exact newD_fz (P := fun d A1 => ∃ A2, Shr A2 A1 ∧ P d A2) ⟨A1, Shr.refl _, h ls A1 hq2 (hs1.up (by rw [List.length_map]; omega)) ho1⟩) (fun _ _ _ _ _ _ us hl => match us, hl with | [_, _], _ => rfl)
def fib12 : List Int := [1, 1, 2, 3, 5, 8, 13, 21, 34, 55, 89, 144]
theorem fib12_ok : ∀ x ∈ fib12, 1 ≤ x ∧ x ≤ 1000 := by decide +kernel
def r_counts : RNQ := fun ds A P => ∃ (a b : Addr) (k m : Nat), ds = [.mut a, .int m] ∧ 0 < m ∧ m ≤ 12 ∧ Strm A a b k ∧ k + 100 ≤ maxDraws ∧ ∀ ks (g : Key → Int) A', SymsOk ks → ks.length ≤ m → (∀ x ∈ ks, 1 ≤ g x ∧ g x ≤ 1000) → Strm A' a b (k + 100) → Off a b A A' → P (.dic (tabK ks fun x => .int (g x))) A'
end
end K66


set_option Elab.async false
set_option linter.all false
set_option maxRecDepth 100000
set_option maxHeartbeats 4000000
namespace K66
open PySem L2 Qd
local macro_rules | `(tactic| walk_at "rd") => `(tactic| simp only [qVar_z, qVar_s, qC, qSeq, qNext, qRet, qRetN, qIfS, qTest, qIs, qOp, qUn, qAnd, qOr, qNot, qAndV, qOrV, qNotV, qCB, qCons, qNil, okQ_some, okQ_none, qIf, qChain, qI, qIC, r1_rd, r2_rd, Qd.rLen, qLc, qIt, rAllQ, rAnyQ, rSumQ, rMinQ, rMaxQ, rAbsQ, rIntQ, newL_f, newL_t, Bool.false_eq_true, if_false, qInS, qEq, qNe, qIsN, qNotN, qDrop, if_true, qDcB, qFill, kkB, qDGet, kkK, qDcK, qFzD, qAsg, tset_nm, tset_tp, tsets_nil, tsets_nm, tsets_tp, wipe_nil, wipe_cons, List.set_cons_zero, List.set_cons_succ, qRaise, qFor, qRng1, qRng2, qTup, qLst, qPar, eqD_int, eqD_str, eqD_bl, itD_lst, itD_tup, itD_dic, lenD_lst, lenD_tup, lenD_dic, dicD_dic, lstD_lst, seqD_lst, seqD_tup, qSl, qoNone, qoSome, qRevL, qLrg1, qLrg2, qCX, qKw, qKwX, List.length_cons, List.length_nil, List.map_cons, List.map_nil, qAsgG, gTupQ, gConsQ, gSubT, gNilQ, qTGet, qDcT, kkT, qNewT, qNewK, List.length_map, Int.toNat_natCast, ditD_mut, qIx_tup, qIx_lst, keysT_2, Bool.or_true, Bool.true_or, Int.zero_add, isN_tup, isN_lst, isN_int, isN_dic, isN_non, at_zero, qMeth, qAddL, qMulL, rTupQ, qCBw, qLX, qLKw, qMet, pick_0, pick_10, qFz, qFzN, qDispF, qNewF, qDictF, qpCons, qpNil, qDispB, qDispT, keyPs, obD, qEqV, gSubQ, qNegI, qMets, at4_0, at4_1, at4_2, at4_3, ix4_1, ix4_2, ix4_3])
local macro_rules | `(tactic| walk_at "rs") => `(tactic| simp only [qVar_z, qVar_s, qC, qNext, qRet, qRetN, qIfS, qTest, qIs, qOp, qUn, qAnd, qOr, qNot, qAndV, qOrV, qNotV, qCB, qCons, qNil, okQ_some, okQ_none, qIf, qChain, qI, qIC, r1_rd, r2_rd, Qd.rLen, qLc, qIt, rAllQ, rAnyQ, rSumQ, rMinQ, rMaxQ, rAbsQ, rIntQ, newL_f, newL_t, Bool.false_eq_true, if_false, qInS, qEq, qNe, qIsN, qNotN, qDrop, if_true, qDcB, qFill, kkB, qDGet, kkK, qDcK, qFzD, qAsg, tset_nm, tset_tp, tsets_nil, tsets_nm, tsets_tp, wipe_nil, wipe_cons, List.set_cons_zero, List.set_cons_succ, qRaise, qFor, qRng1, qRng2, qTup, qLst, qPar, eqD_int, eqD_str, eqD_bl, itD_lst, itD_tup, itD_dic, lenD_lst, lenD_tup, lenD_dic, dicD_dic, lstD_lst, seqD_lst, seqD_tup, qSl, qoNone, qoSome, qRevL, qLrg1, qLrg2, qCX, qKw, qKwX, List.length_cons, List.length_nil, List.map_cons, List.map_nil, qAsgG, gTupQ, gConsQ, gSubT, gNilQ, qTGet, qDcT, kkT, qNewT, qNewK, List.length_map, Int.toNat_natCast, ditD_mut, qIx_tup, qIx_lst, keysT_2, Bool.or_true, Bool.true_or, Int.zero_add, isN_tup, isN_lst, isN_int, isN_dic, isN_non, at_zero, qMeth, qAddL, qMulL, rTupQ, qCBw, qLX, qLKw, qMet, pick_0, pick_10, qFz, qFzN, qDispF, qNewF, qDictF, qpCons, qpNil, qDispB, qDispT, keyPs, obD, qEqV, gSubQ, qNegI, qMets, at4_0, at4_1, at4_2, at4_3, ix4_1, ix4_2, ix4_3])
section
variable {P : Program} {w : World} {K : PySem.W.Frag} {mg : Str → Option Value} {base : Heap}
def bitS (x : Str) : Bool := x.cps.toList.all fun c => decide (c ∈ ("01" : Str).cps.toList)
def bitQ (A : MH) : D → Option Bool
  | .str x => if x.length ≤ 100000 then some (bitS x) else none
  | d => (tyQ A d).map fun _ => false
def f_isbits (A : MH) (d : D) : Option D := (bitQ A d).map .bl
theorem bitQ_not {A : MH} {d : D} {t : Ty} (h : tyQ A d = some t) (n : t ≠ .str) : bitQ A d = some false := by
  unfold bitQ
  split
  · cases h; exact absurd rfl n
  · rw [h]; rfl
theorem d_is_bits (Z : Nv K mg) : Def P w K mg base 1 "is_bits" (defArgs s_is_bits) ["thing"] (r1 f_isbits) := mkDef Z.f_is_bits (fun f fd F => by
  have S := sc_is_bits
  refine def_ok F S r1_len fun cdv A outer s H E tb hr => ⟨_, (psq_one (psq_ret (pq_and (pq_ist1 .str (qv 0) (pq_ty Z.b_str) Z.b_isinstance) (pq_one (pq_bi (cq_all rfl) Z.b_all (paq_cons (pq_lc false rfl S.nd (piq_it (qv 0)) (blkOk_by (N := ["thing", "sign"]) (sc := defScope s_is_bits) (own := [("sign", 1)]) (by decide +kernel)) (fun _ _ _ _ _ => (gq_nm 1 S.nd)) (fun _ _ _ _ _ => qts_nil) (fun _ _ _ _ _ => (pq_inS (qv 1) pq_str))) paq_nil)))))), ?_⟩
  rintro ds A P ⟨d, rfl, h⟩
  rw [show startQ ["thing", "sign"] [d] = [some (d), none] from rfl]
  walk_at "rd"
  unfold f_isbits at h
  cases e : tyQ A d with
  | none =>
    have : bitQ A d = none := by
      unfold bitQ
      split
      · cases e
      · rw [e]; rfl
    rw [this] at h; exact h.elim
  | some t =>
    by_cases q : t = .str
    · subst q
      obtain ⟨x, rfl⟩ := tyQ_str e
      unfold bitQ at h
      by_cases hl : x.length ≤ 100000
      · simp only [if_pos hl, Option.map_some, okQ_some] at h
        rw [okQ_some]
        show okQ (itD (.str x)) _
        show compL _ _ _ _ (sgnD x) [] A _
        unfold sgnD
        refine compL_of (fun c => .str ⟨#[c]⟩) (fun c => .bl (decide (c ∈ ("01" : Str).cps.toList))) x.cps.toList hl (fun c _ Q hQ => hQ) ?_
        show okQ (blsD _) _
        rw [show x.cps.toList.map (fun c => D.bl (decide (c ∈ ("01" : Str).cps.toList))) = (x.cps.toList.map fun c => decide (c ∈ ("01" : Str).cps.toList)).map .bl from (List.map_map ..).symm, blsD_map, okQ_some, List.all_map]
        exact h
      · simp only [if_neg hl, Option.map_none, okQ_none] at h
    · rw [bitQ_not e q] at h
      show (match D.bl ([Ty.str].any t.sub) with | .bl true => _ | .bl false => _ | _ => False)
      rw [show [Ty.str].any t.sub = false by cases t <;> first | rfl | exact absurd rfl q]
      exact h) (fun _ _ _ _ _ _ us hl => match us, hl with | [_], _ => rfl)
/-- a row of bits that is not empty -/
def bit1 (A : MH) : D → Option Bool
  | .str x => if x.length ≤ 100000 then some (bitS x && decide (x ≠ "")) else none
  | d => (tyQ A d).map fun _ => false
theorem bit1_go {A : MH} {v : D} {b : Bool} (h : bit1 A v = some b) {Q : KQ} (q : Q (.bl b) A) : okQ (f_isbits A v) fun d => match d with | .bl true => okQ (eqD v (.str "")) fun b => Q (.bl (!b)) A | .bl false => Q (.bl false) A | _ => False := by
  unfold f_isbits
  cases e : tyQ A v with
  | none =>
    exfalso
    unfold bit1 at h
    split at h
    · cases e
    · rw [e] at h; cases h
  | some t =>
    by_cases n : t = .str
    · subst n
      obtain ⟨x, rfl⟩ := tyQ_str e
      unfold bit1 at h
      by_cases hl : x.length ≤ 100000
      · simp only [if_pos hl, Option.some.injEq] at h
        subst h
        unfold bitQ
        simp only [if_pos hl, Option.map_some, okQ_some]
        cases hb : bitS x with
        | true =>
          rw [hb] at q
          show okQ (eqD (.str x) (.str "")) _
          rw [eqD_str, okQ_some]
          by_cases hx : x = ""
          · rw [decide_eq_true hx]; rw [decide_eq_false (fun z => z hx)] at q; exact q
          · rw [decide_eq_false hx]; rw [decide_eq_true hx] at q; exact q
        | false => rw [hb] at q; exact q
      · simp only [if_neg hl] at h; cases h
    · rw [bitQ_not e n, Option.map_some, okQ_some]
      unfold bit1 at h
      split at h
      · cases e; exact absurd rfl n
      · rw [e] at h; cases h; exact q
def distC (kf : List (Key × D)) : Option Bool := (mapO (fun p : Key × D => (getA kf p.1).bind keyD) kf).map fun vs => decide ((mergeA [] (vs.map fun k => (k, D.bl true))).length = kf.length)
def f_keptC (A : MH) (d : D) : Option D := (tyQ A d).bind fun t => if t ≠ .dic then some .non else (entD A d).bind fun kvs => (symsQ A (kvs.map (·.1))).bind fun b => if b = false then some .non else match d with
  | .dic ps => if ps.length < 64 then (mapO (fun p : Key × D => (getA ps p.1).bind (bit1 A)) ps).bind fun bs => if bs.all id = false then some .non else (keptK ps).bind fun kvs => (distC (mergeA [] kvs)).map fun c => if c = true then .dic (mergeA [] kvs) else .non else none
  | _ => none
theorem d_kept_code (Z : Nv K mg) : Def P w K mg base 4 "kept_code" (defArgs s_kept_code) ["thing"] (r1 f_keptC) := mkDef Z.f_kept_code (fun f fd F => by
  have S := sc_kept_code
  refine def_ok F S r1_len fun cdv A outer s H E tb hr => ?_
  have G_is_bits := d_is_bits (P := P) (w := w) (base := base) Z
  have HR_is_bits := hr.mono (show 1 ≤ 3 by decide)
  have G_are_symbols := d_are_symbols (P := P) (w := w) (base := base) Z
  have HR_are_symbols := hr
  refine ⟨_, (psq_cons (psq_if (PWQ.pt (pwq_or (ptq_not (ptq_val (pq_ist1 .dic (qv 0) (pq_ty Z.b_dict) Z.b_isinstance))) (pwq_or1 (ptq_not (ptq_val (pq_fn G_are_symbols HR_are_symbols (paq_cons (pq_bt (cq_list false rfl) Z.b_list (paq_cons (qv 0) paq_nil)) paq_nil))))))) (psq_one (psq_ret pq_non)) psq_nil) (psq_cons (psq_if (ptq_not (ptq_val (pq_bi (cq_all rfl) Z.b_all (paq_cons (pq_lc false rfl S.nd (piq_it (qv 0)) (blkOk_by (N := ["thing", "one", "found"]) (sc := defScope s_kept_code) (own := [("one", 1)]) (by decide +kernel)) (fun _ _ _ _ _ => (gq_nm 1 S.nd)) (fun _ _ _ _ _ => qts_nil) (fun _ _ _ _ _ => (pq_and (pq_fn G_is_bits HR_is_bits (paq_cons (pq_dget (hu_of hr) (qv 0) (qv 1) (fun _ _ => rfl)) paq_nil)) (pq_one (pq_ne hr.units (pq_dget (hu_of hr) (qv 0) (qv 1) (fun _ _ => rfl)) pq_str))))) paq_nil)))) (psq_one (psq_ret pq_non)) psq_nil) (psq_cons (psq_set (i := 2) S.nd (pq_fzD (pq_dcK rfl S.nd (piq_it (pq_bi (cq_sorted false rfl) Z.b_sorted (paq_cons (qv 0) paq_nil))) (blkOk_by (N := ["thing", "one", "found"]) (sc := defScope s_kept_code) (own := [("one", 1)]) (by decide +kernel)) ⟨fun _ _ _ _ _ => (gq_nm 1 S.nd), fun _ _ _ _ _ => qts_nil, fun _ _ _ _ _ => (pq_dget (hu_of hr) (qv 0) (qv 1) (fun _ _ => rfl))⟩ (fun _ _ _ _ _ => (qv 1))))) (psq_one (psq_ret (pq_if (ptq_eq hr.units (pq_bi cq_len Z.b_len (paq_cons (pq_fzD (pq_dcK rfl S.nd (piq_it (qv 2)) (blkOk_by (N := ["thing", "one", "found"]) (sc := defScope s_kept_code) (own := [("one", 1)]) (by decide +kernel)) ⟨fun _ _ _ _ _ => (gq_nm 1 S.nd), fun _ _ _ _ _ => qts_nil, fun _ _ _ _ _ => pq_bl⟩ (fun _ _ _ _ _ => (pq_dget (hu_of hr) (qv 2) (qv 1) (fun _ _ => rfl))))) paq_nil)) (pq_bi cq_len Z.b_len (paq_cons (qv 2) paq_nil))) (qv 2) pq_non)))))), ?_⟩
  rintro ds A P ⟨d, rfl, h⟩
  rw [show startQ ["thing", "one", "found"] [d] = [some (d), none, none] from rfl]
  refine qSeq_st fun N1 n1 => ?_
  walk_at "rs"
  unfold f_keptC at h
  cases e1 : tyQ A d with
  | none => rw [e1] at h; exact h.elim
  | some t =>
    rw [e1, Option.bind_some] at h
    rw [okQ_some]
    by_cases ht : t = .dic
    case neg =>
      rw [if_pos ht] at h
      rw [if_pos (by cases t <;> first | exact absurd rfl ht | decide)]
      exact h
    subst ht
    rw [if_neg (by simp)] at h
    rw [if_neg (by decide)]
    cases e2 : entD A d with
    | none => rw [e2] at h; exact h.elim
    | some kvs =>
      rw [e2, Option.bind_some] at h
      refine rList_ent e2 ?_
      cases e4 : symsQ A (kvs.map (·.1)) with
      | none => rw [e4] at h; exact h.elim
      | some b =>
        rw [e4, Option.bind_some] at h
        show okQ ((symsQ A (kvs.map (·.1))).map D.bl) _
        rw [e4, Option.map_some, okQ_some]
        show (if (!b) = true then _ else _)
        cases b with
        | false => exact h
        | true =>
          rw [if_neg (by decide)]
          rw [if_neg (by decide)] at h
          split at h
          case h_2 => exact h.elim
          rename_i ps
          split at h
          case isFalse => exact h.elim
          rename_i hl
          refine n1 _ _ (qSeq_st fun N2 n2 => ?_)
          walk_at "rs"
          cases e5 : mapO (fun p : Key × D => (getA ps p.1).bind (bit1 A)) ps with
          | none => rw [e5] at h; exact h.elim
          | some bs =>
            rw [e5, Option.bind_some] at h
            refine compL_map (fun k => (keyD k).bind fun k => (getA ps k).bind fun v => (bit1 A v).map D.bl) (keysD ps) [] (by unfold keysD; rw [List.length_map]; simp; omega) (fun y _ Q hQ => ?_) ?_
            · show okQ (some [some (D.dic ps), some y, none]) _
              walk_at "rd"
              cases e6 : keyD y with
              | none => rw [e6] at hQ; exact hQ.elim
              | some k =>
                rw [e6, Option.bind_some] at hQ
                cases e7 : getA ps k with
                | none => rw [e7] at hQ; exact hQ.elim
                | some v =>
                  rw [e7, Option.bind_some] at hQ
                  cases e8 : bit1 A v with
                  | none => rw [e8] at hQ; exact hQ.elim
                  | some b =>
                    rw [e8] at hQ
                    simp only [okQ_some, e7]
                    exact bit1_go e8 hQ
            · have e9 : mapO (fun k => (keyD k).bind fun k => (getA ps k).bind fun v => (bit1 A v).map D.bl) (keysD ps) = some (bs.map D.bl) := by
                unfold keysD
                rw [mapO_of_map]
                refine mapO_comp D.bl e5 fun p _ b e => ?_
                rw [keyD_k, Option.bind_some]
                cases e6 : getA ps p.1 with
                | none => rw [e6] at e; cases e
                | some v => rw [e6, Option.bind_some] at e; rw [Option.bind_some, e]; rfl
              refine okQ_mk e9 ?_
              rw [show (some ([] ++ bs.map D.bl)).bind blsD = some bs from blsD_map bs, okQ_some]
              cases hb : bs.all id with
              | false => rw [if_pos hb] at h; exact h
              | true =>
                rw [if_neg (by rw [hb]; decide)] at h
                rw [if_neg (by decide)]
                refine n2 _ _ (qSeq_st fun N3 n3 => ?_)
                walk_at "rs"
                cases e10 : keptK ps with
                | none => rw [e10] at h; exact h.elim
                | some kvs2 =>
                  rw [e10, Option.bind_some] at h
                  unfold keptK at e10
                  cases e11 : sortKeys ps with
                  | none => rw [e11] at e10; cases e10
                  | some ks =>
                    rw [e11, Option.bind_some] at e10
                    refine rSort_dic e11 hl ?_
                    show compF _ _ _ _ _ (ks.map kD) [] A _
                    refine compF_map keyD (fun x => (keyD x).bind (getA ps)) (ks.map kD) [] (by rw [List.length_map, sortKeys_len e11]; simp; omega) (fun y _ Q hQ => ?_) ?_
                    · show okQ (some [some (D.dic ps), some y, none]) _
                      walk_at "rd"
                      cases e6 : keyD y with
                      | none => rw [e6] at hQ; exact hQ.elim
                      | some k =>
                        rw [e6, Option.bind_some] at hQ
                        cases e7 : getA ps k with
                        | none => rw [e7] at hQ; exact hQ.elim
                        | some v =>
                          rw [e7] at hQ
                          simp only [okQ_some, e7]
                          exact hQ
                    · have e12 : mapO (fun x => pair2 (keyD x) ((keyD x).bind (getA ps))) (ks.map kD) = some kvs2 := by
                        rw [mapO_of_map, ← e10]
                        refine mapO_congr fun k _ => ?_
                        rw [keyD_k, Option.bind_some]
                        cases getA ps k <;> rfl
                      refine okQ_mk e12 ?_
                      refine qFzD_new (m := fun _ _ _ => False) (s := []) (P := fun d A1 => N3 [some (D.dic ps), none, some d] A1) ?_
                      show N3 [some (D.dic ps), none, some (D.dic (mergeA [] kvs2))] A
                      refine n3 _ _ ?_
                      walk_at "rd"
                      unfold distC at h
                      cases e13 : mapO (fun p : Key × D => (getA (mergeA [] kvs2) p.1).bind keyD) (mergeA [] kvs2) with
                      | none => rw [e13] at h; exact h.elim
                      | some vs =>
                        rw [e13, Option.map_some, Option.map_some, okQ_some] at h
                        refine compF_map (fun x => ((keyD x).bind (getA (mergeA [] kvs2))).bind keyD) (fun _ => some (.bl true)) (keysD (mergeA [] kvs2)) [] (by have := mergeA_length kvs2 []; have := mapO_length e10; have := sortKeys_len e11; unfold keysD; rw [List.length_map]; simp at *; omega) (fun y _ Q hQ => ?_) ?_
                        · show okQ (some [some (D.dic ps), some y, some (D.dic (mergeA [] kvs2))]) _
                          walk_at "rd"
                          cases e6 : keyD y with
                          | none => rw [e6] at hQ; exact hQ.elim
                          | some k =>
                            rw [e6, Option.bind_some] at hQ
                            cases e7 : getA (mergeA [] kvs2) k with
                            | none => rw [e7] at hQ; exact hQ.elim
                            | some v =>
                              rw [e7, Option.bind_some] at hQ
                              simp only [okQ_some, e7]
                              cases e8 : keyD v with
                              | none => rw [e8] at hQ; exact hQ.elim
                              | some k2 =>
                                rw [e8] at hQ
                                exact hQ
                        · have e14 : mapO (fun x => pair2 (((keyD x).bind (getA (mergeA [] kvs2))).bind keyD) (some (D.bl true))) (keysD (mergeA [] kvs2)) = some (vs.map fun k => (k, D.bl true)) := by
                            unfold keysD
                            rw [mapO_of_map]
                            refine mapO_comp (fun k => (k, D.bl true)) e13 fun p _ b e => ?_
                            rw [keyD_k, Option.bind_some, e]
                            rfl
                          refine okQ_mk e14 ?_
                          unfold newD
                          rw [if_pos rfl]
                          intro a ha
                          simp only [MH.set_same, MH.del_set ha]
                          by_cases c : (mergeA [] (vs.map fun k => (k, D.bl true))).length = (mergeA [] kvs2).length
                          · rw [decide_eq_true c, if_pos rfl] at h
                            rw [if_pos (by rw [decide_eq_true_eq]; exact_mod_cast c)]
                            exact h
                          · rw [decide_eq_false c, if_neg (by decide)] at h
                            rw [if_neg (by rw [decide_eq_true_eq]; exact_mod_cast c)]
                            exact h) (fun _ _ _ _ _ _ us hl => match us, hl with | [_], _ => rfl)
def r_needC (C : Addr) : RXQ := fun ds A P x2 => ∃ d, ds = [d] ∧ okQ (f_keptC A d) fun z => if isN z = true then x2 C [("code", d)] A else P z A
theorem d_need_code (Z : Nv K mg) {C : Addr} (E_BadCode : ErrC P w K mg base 1 "BadCode" C "code") : DefX P w K mg base 5 "need_code" (defArgs s_need_code) ["code"] (r_needC C) := mkDefX Z.f_need_code (fun f fd F => by
  have S := sc_need_code
  refine def_okX F S (by rintro ds A P x2 ⟨d, rfl, _⟩; rfl) fun cdv A outer s H E tb x2 hr => ?_
  have G_kept_code := d_kept_code (P := P) (w := w) (base := base) Z
  have HR_kept_code := hr
  have HR_BadCode := hr.mono (show 2 ≤ 4 by decide)
  refine ⟨_, (psq_cons (psq_set (i := 1) S.nd (pq_fn G_kept_code HR_kept_code (paq_cons (qv 0) paq_nil))) (psq_cons (psq_if (ptq_isN (qv 1) pq_non) (psq_one (psq_raise E_BadCode rfl HR_BadCode pass_cx (qv 0))) psq_nil) (psq_one (psq_ret (qv 1))))), ?_⟩
  rintro ds A P ⟨d, rfl, h⟩
  rw [show startQ ["code", "kept"] [d] = [some (d), none] from rfl]
  walk_at "rd"
  exact h) (fun _ _ _ _ _ _ us hl => match us, hl with | [_], _ => rfl)
end
end K66


set_option Elab.async false
set_option linter.all false
set_option maxRecDepth 100000
set_option maxHeartbeats 4000000
namespace K66
open PySem L2 Qd
local macro_rules | `(tactic| walk_at "rd") => `(tactic| simp only [qVar_z, qVar_s, qC, qSeq, qNext, qRet, qRetN, qIfS, qTest, qIs, qOp, qUn, qAnd, qOr, qNot, qAndV, qOrV, qNotV, qCB, qCons, qNil, okQ_some, okQ_none, qIf, qChain, qI, qIC, r1_rd, r2_rd, Qd.rLen, qLc, qIt, rAllQ, rAnyQ, rSumQ, rMinQ, rMaxQ, rAbsQ, rIntQ, newL_f, newL_t, Bool.false_eq_true, if_false, qInS, qEq, qNe, qIsN, qNotN, qDrop, if_true, qDcB, qFill, kkB, qDGet, kkK, qDcK, qFzD, qAsg, tset_nm, tset_tp, tsets_nil, tsets_nm, tsets_tp, wipe_nil, wipe_cons, List.set_cons_zero, List.set_cons_succ, qRaise, qFor, qRng1, qRng2, qTup, qLst, qPar, eqD_int, eqD_str, eqD_bl, itD_lst, itD_tup, itD_dic, lenD_lst, lenD_tup, lenD_dic, dicD_dic, lstD_lst, seqD_lst, seqD_tup, qSl, qoNone, qoSome, qRevL, qLrg1, qLrg2, qCX, qKw, qKwX, List.length_cons, List.length_nil, List.map_cons, List.map_nil, qAsgG, gTupQ, gConsQ, gSubT, gNilQ, qTGet, qDcT, kkT, qNewT, qNewK, List.length_map, Int.toNat_natCast, ditD_mut, qIx_tup, qIx_lst, keysT_2, Bool.or_true, Bool.true_or, Int.zero_add, isN_tup, isN_lst, isN_int, isN_dic, isN_non, at_zero, qMeth, qAddL, qMulL, rTupQ, qCBw, qLX, qLKw, qMet, pick_0, pick_10, qFz, qFzN, qDispF, qNewF, qDictF, qpCons, qpNil, qDispB, qDispT, keyPs, obD, qEqV, gSubQ, qNegI, qMets, at4_0, at4_1, at4_2, at4_3, ix4_1, ix4_2, ix4_3])
local macro_rules | `(tactic| walk_at "rs") => `(tactic| simp only [qVar_z, qVar_s, qC, qNext, qRet, qRetN, qIfS, qTest, qIs, qOp, qUn, qAnd, qOr, qNot, qAndV, qOrV, qNotV, qCB, qCons, qNil, okQ_some, okQ_none, qIf, qChain, qI, qIC, r1_rd, r2_rd, Qd.rLen, qLc, qIt, rAllQ, rAnyQ, rSumQ, rMinQ, rMaxQ, rAbsQ, rIntQ, newL_f, newL_t, Bool.false_eq_true, if_false, qInS, qEq, qNe, qIsN, qNotN, qDrop, if_true, qDcB, qFill, kkB, qDGet, kkK, qDcK, qFzD, qAsg, tset_nm, tset_tp, tsets_nil, tsets_nm, tsets_tp, wipe_nil, wipe_cons, List.set_cons_zero, List.set_cons_succ, qRaise, qFor, qRng1, qRng2, qTup, qLst, qPar, eqD_int, eqD_str, eqD_bl, itD_lst, itD_tup, itD_dic, lenD_lst, lenD_tup, lenD_dic, dicD_dic, lstD_lst, seqD_lst, seqD_tup, qSl, qoNone, qoSome, qRevL, qLrg1, qLrg2, qCX, qKw, qKwX, List.length_cons, List.length_nil, List.map_cons, List.map_nil, qAsgG, gTupQ, gConsQ, gSubT, gNilQ, qTGet, qDcT, kkT, qNewT, qNewK, List.length_map, Int.toNat_natCast, ditD_mut, qIx_tup, qIx_lst, keysT_2, Bool.or_true, Bool.true_or, Int.zero_add, isN_tup, isN_lst, isN_int, isN_dic, isN_non, at_zero, qMeth, qAddL, qMulL, rTupQ, qCBw, qLX, qLKw, qMet, pick_0, pick_10, qFz, qFzN, qDispF, qNewF, qDictF, qpCons, qpNil, qDispB, qDispT, keyPs, obD, qEqV, gSubQ, qNegI, qMets, at4_0, at4_1, at4_2, at4_3, ix4_1, ix4_2, ix4_3])
section
variable {P : Program} {w : World} {K : PySem.W.Frag} {mg : Str → Option Value} {base : Heap}
theorem eqD_k {a b : Key} : eqD (kD a) (kD b) = some (decide (a = b)) := by
  cases a with
  | inl i => cases b with
    | inl j => show eqD (.int i) (.int j) = _; rw [eqD_int]; simp only [Sum.inl.injEq]
    | inr y => show some _ = _; simp
  | inr x => cases b with
    | inl j => show some _ = _; simp
    | inr y => show eqD (.str x) (.str y) = _; rw [eqD_str]; simp only [Sum.inr.injEq]
theorem lenD_str {A : MH} {x : Str} (h : x.length ≤ 100000) : lenD A (.str x) = some x.length := if_pos h
/-- a code: keys and their words -/
abbrev codD (ks : List Key) (W : Key → Str) : D := .dic (tabK ks fun k => .str (W k))
def preS (x y : Str) : Bool := decide (cutS y none (some (x.length : Int)) = x)
def twoK (W : Key → Str) (ks : List Key) : List Key → Option (Key × Key)
  | [] => none
  | a :: r => match ks.find? (fun b => decide (a ≠ b) && preS (W a) (W b)) with
    | some b => some (a, b)
    | none => twoK W ks r
def twoD : Option (Key × Key) → D
  | some (a, b) => .tup [kD a, kD b]
  | none => .non
def r_firstTwo : RNQ := fun ds A P => ∃ ks W, ds = [codD ks W] ∧ ks.length < 64 ∧ (∀ k ∈ ks, (W k).length ≤ 100000) ∧ P (twoD (twoK W ks ks)) A
theorem d_first_two (Z : Nv K mg) : Def P w K mg base 4 "first_two" (defArgs s_first_two) ["code"] r_firstTwo := mkDef Z.f_first_two (fun f fd F => by
  have S := sc_first_two
  refine def_ok F S (by rintro ds A P ⟨_, _, rfl, _⟩; rfl) fun cdv A outer s H E tb hr => ?_
  refine ⟨_, (psq_cons (psq_for PassesOwn.never rfl (piq_it (qv 0)) (gq_nm 1 S.nd) (psq_one (psq_for PassesOwn.never rfl (piq_it (qv 0)) (gq_nm 2 S.nd) (psq_one (psq_if (PWQ.pt (pwq_and (ptq_ne hr.units (qv 1) (qv 2)) (pwq_and1 (ptq_eq hr.units (pq_slice false (pq_dget (hu_of hr) (qv 0) (qv 2) (fun _ _ => rfl)) poq_none (poq_some (pq_bi cq_len Z.b_len (paq_cons (pq_dget (hu_of hr) (qv 0) (qv 1) (fun _ _ => rfl)) paq_nil)))) (pq_dget (hu_of hr) (qv 0) (qv 1) (fun _ _ => rfl)))))) (psq_one (psq_ret (pq_tup (paq_cons (qv 1) (paq_cons (qv 2) paq_nil))))) psq_nil))))) (psq_one (psq_ret pq_non))), ?_⟩
  rintro ds A P ⟨ks, W, rfl, hl, hw, h⟩
  rw [show startQ ["code", "one", "other"] [codD ks W] = [some (codD ks W), none, none] from rfl]
  walk_at "rd"
  have hk : keysD (tabK ks fun k => .str (W k)) = ks.map kD := by
    unfold keysD tabK
    rw [List.map_map]
    rfl
  rw [hk]
  refine runL_inv (fun xs s' A' => ∃ r x y, xs = r.map kD ∧ (∀ k ∈ r, k ∈ ks) ∧ s' = [some (codD ks W), x, y] ∧ A' = A ∧ P (twoD (twoK W ks r)) A) ?_ ?_ _ _ _ ⟨ks, _, _, rfl, fun _ z => z, rfl, rfl, h⟩
  · rintro x xs s' A' N ⟨r, x1, x2, e, hm, rfl, rfl, q⟩ next
    cases r with
    | nil => cases e
    | cons a r =>
      rw [List.map_cons] at e
      obtain ⟨rfl, rfl⟩ := List.cons.inj e
      have ha := hm a (.head _)
      walk_at "rd"
      rw [hk]
      refine runL_inv (fun xs s' A2 => ∃ rb y, xs = rb.map kD ∧ (∀ k ∈ rb, k ∈ ks) ∧ s' = [some (codD ks W), some (kD a), y] ∧ A2 = A' ∧ P (twoD (match rb.find? (fun b => decide (a ≠ b) && preS (W a) (W b)) with | some b => some (a, b) | none => twoK W ks r)) A') ?_ ?_ _ _ _ ⟨ks, _, rfl, fun _ z => z, rfl, rfl, q⟩
      · rintro y ys s2 A2 N2 ⟨rb, x3, e, hm2, rfl, rfl, q⟩ next2
        cases rb with
        | nil => cases e
        | cons b rb =>
          rw [List.map_cons] at e
          obtain ⟨rfl, rfl⟩ := List.cons.inj e
          have hb := hm2 b (.head _)
          walk_at "rd"
          simp only [eqD_k, okQ_some, keyD_k, getA_tabK (v := fun k => D.str (W k)) ha, getA_tabK (v := fun k => D.str (W k)) hb, eqD_str]
          rw [List.find?_cons] at q
          by_cases hab : a = b
          · rw [if_neg (by simp [hab])]
            rw [show (decide (a ≠ b) && preS (W a) (W b)) = false by simp [hab]] at q
            exact next2 _ _ ⟨rb, _, rfl, fun k z => hm2 k (.tail _ z), rfl, rfl, q⟩
          · rw [if_pos (by simp [hab])]
            rw [lenD_str (hw a ha), okQ_some]
            refine ⟨hw b hb, ?_⟩
            rw [show (decide (a ≠ b) && preS (W a) (W b)) = preS (W a) (W b) by simp [hab]] at q
            show if preS (W a) (W b) = true then _ else _
            cases hp : preS (W a) (W b) with
            | true =>
              rw [hp] at q
              exact ⟨by decide, q⟩
            | false =>
              rw [hp] at q
              exact next2 _ _ ⟨rb, _, rfl, fun k z => hm2 k (.tail _ z), rfl, rfl, q⟩
      · rintro s2 A2 ⟨rb, x3, e, hm2, rfl, rfl, q⟩
        cases rb with
        | nil => exact next _ _ ⟨r, _, _, rfl, fun k z => hm k (.tail _ z), rfl, rfl, q⟩
        | cons => cases e
  · rintro s' A' ⟨r, x1, x2, e, hm, rfl, rfl, q⟩
    cases r with
    | nil => exact q
    | cons => cases e) (fun _ _ _ _ _ _ us hl => match us, hl with | [_], _ => rfl)
/-- a code that need_prefix lets through -/
def r_needP (C C0 : Addr) : RXQ := fun ds A P x2 => ∃ d, ds = [d] ∧ okQ (f_keptC A d) fun z => if isN z = true then x2 C [("code", d)] A else ∃ ks W, z = codD ks W ∧ ks.length < 64 ∧ (∀ k ∈ ks, (W k).length ≤ 100000) ∧ if (twoK W ks ks).isSome = true then x2 C0 [] A else P z A
theorem d_need_prefix (Z : Nv K mg) {C C0 : Addr} (E_BadCode : ErrC P w K mg base 1 "BadCode" C "code") (E_NotPrefix : Err0 K mg "NotPrefix" C0) : DefX P w K mg base 6 "need_prefix" (defArgs s_need_prefix) ["code"] (r_needP C C0) := mkDefX Z.f_need_prefix (fun f fd F => by
  have S := sc_need_prefix
  refine def_okX F S (by rintro ds A P x2 ⟨d, rfl, _⟩; rfl) fun cdv A outer s H E tb x2 hr => ?_
  have G_need_code := d_need_code (P := P) (w := w) (base := base) Z E_BadCode
  have G_first_two := d_first_two (P := P) (w := w) (base := base) Z
  have HR_need_code := hr
  have HR_first_two := hr.mono (show 4 ≤ 5 by decide)
  refine ⟨_, (psq_cons (psq_set (i := 1) S.nd (pq_fnX G_need_code HR_need_code pass_own (paq_cons (qv 0) paq_nil))) (psq_cons (psq_if (ptq_notN (pq_fn G_first_two HR_first_two (paq_cons (qv 1) paq_nil)) pq_non) (psq_one (psq_raise0 E_NotPrefix rfl pass_cx)) psq_nil) (psq_one (psq_ret (qv 1))))), ?_⟩
  rintro ds A P ⟨d, rfl, h⟩
  rw [show startQ ["code", "kept"] [d] = [some (d), none] from rfl]
  walk_at "rd"
  refine ⟨d, rfl, ?_⟩
  cases e : f_keptC A d with
  | none => rw [e] at h; exact h.elim
  | some z =>
    rw [e, okQ_some] at h
    rw [okQ_some]
    cases hz : isN z with
    | true => rw [hz, if_pos rfl] at h; rw [if_pos rfl]; exact h
    | false =>
      rw [hz, if_neg (by decide)] at h
      rw [if_neg (by decide)]
      obtain ⟨ks, W, rfl, hl, hw, q⟩ := h
      refine ⟨ks, W, rfl, hl, hw, ?_⟩
      cases et : twoK W ks ks with
      | none => rw [et] at q; exact q
      | some p => rw [et] at q; exact q) (fun _ _ _ _ _ _ us hl => match us, hl with | [_], _ => rfl)
/-- the first neighbours whose words descend -/
def turnK (W : Key → Str) : List Key → Option (Key × Key)
  | a :: b :: r => if gtS (W a) (W b) then some (a, b) else turnK W (b :: r)
  | _ => none
def ordD : Option (Key × Key) → D
  | some (a, b) => .tup [.str "two", kD a, kD b]
  | none => .tup [.str "ordered"]
def r_ordered (C C0 : Addr) : RXQ := fun ds A P x2 => ∃ d, ds = [d] ∧ okQ (f_keptC A d) fun z => if isN z = true then x2 C [("code", d)] A else ∃ ks W, z = codD ks W ∧ ks.length < 64 ∧ (∀ k ∈ ks, (W k).length ≤ 100000) ∧ if (twoK W ks ks).isSome = true then x2 C0 [] A else P (ordD (turnK W ks)) A
theorem d_ordered_or_two (Z : Nv K mg) {C C0 : Addr} (E_BadCode : ErrC P w K mg base 1 "BadCode" C "code") (E_NotPrefix : Err0 K mg "NotPrefix" C0) : DefX P w K mg base 7 "ordered_or_two" (defArgs s_ordered_or_two) ["code"] (r_ordered C C0) := mkDefX Z.f_ordered_or_two (fun f fd F => by
  have S := sc_ordered_or_two
  refine def_okX F S (by rintro ds A P x2 ⟨d, rfl, _⟩; rfl) fun cdv A outer s H E tb x2 hr => ?_
  have G_need_prefix := d_need_prefix (P := P) (w := w) (base := base) Z E_BadCode E_NotPrefix
  have HR_need_prefix := hr
  refine ⟨_, (psq_cons (psq_set (i := 1) S.nd (pq_fnX G_need_prefix HR_need_prefix pass_own (paq_cons (qv 0) paq_nil))) (psq_cons (psq_set (i := 2) S.nd (pq_bt (cq_list false rfl) Z.b_list (paq_cons (qv 1) paq_nil))) (psq_cons (psq_for (passes_of rfl) rfl (piq_zip Z.b_zip (paq_cons (qv 2) (paq_cons (pq_slice false (qv 2) (poq_some pq_int) poq_none) paq_nil))) (gq_tp rfl (gqs_cons (gq_nm 3 S.nd) (gqs_cons (gq_nm 4 S.nd) gqs_nil))) (psq_one (psq_if (ptq_gtS (pq_dget (hu_of hr) (qv 1) (qv 3) (fun _ _ => rfl)) (pq_dget (hu_of hr) (qv 1) (qv 4) (fun _ _ => rfl))) (psq_one (psq_ret (pq_tup (paq_cons pq_str (paq_cons (qv 3) (paq_cons (qv 4) paq_nil)))))) psq_nil))) (psq_one (psq_ret (pq_tup (paq_cons pq_str paq_nil))))))), ?_⟩
  rintro ds A P ⟨d, rfl, h⟩
  rw [show startQ ["code", "kept", "symbols", "one", "other"] [d] = [some (d), none, none, none, none] from rfl]
  walk_at "rd"
  refine ⟨d, rfl, ?_⟩
  cases e : f_keptC A d with
  | none => rw [e] at h; exact h.elim
  | some z =>
    rw [e, okQ_some] at h
    rw [okQ_some]
    cases hz : isN z with
    | true => rw [hz, if_pos rfl] at h; rw [if_pos rfl]; exact h
    | false =>
      rw [hz, if_neg (by decide)] at h
      rw [if_neg (by decide)]
      obtain ⟨ks, W, rfl, hl, hw, q⟩ := h
      refine ⟨ks, W, rfl, hl, hw, ?_⟩
      cases et : (twoK W ks ks).isSome with
      | true => rw [et, if_pos rfl] at q; rw [if_pos rfl]; exact q
      | false =>
        rw [et, if_neg (by decide)] at q
        rw [if_neg (by decide)]
        show rListQ false [codD ks W] A _
        refine rList_ent (A := A) (d := codD ks W) (kvs := (tabK ks fun k => .str (W k)).map fun p => (kD p.1, p.2)) rfl ?_
        have hk : ((tabK ks fun k => D.str (W k)).map fun p => (kD p.1, p.2)).map (·.1) = ks.map kD := by
          unfold tabK
          rw [List.map_map, List.map_map]
          rfl
        rw [hk]
        unfold qZip
        walk_at "rd"
        rw [show cutD (ks.map kD) (some 1) none = (ks.map kD).drop 1 from cut_drop (b := 1)]
        show runL _ _ _ (pairL (ks.map kD) ((ks.map kD).drop 1)) _ A
        refine runL_inv (fun xs s' A' => ∃ r x y, xs = pairL (r.map kD) ((r.map kD).drop 1) ∧ (∀ k ∈ r, k ∈ ks) ∧ s' = [some d, some (codD ks W), some (D.lst (ks.map kD)), x, y] ∧ A' = A ∧ P (ordD (turnK W r)) A) ?_ ?_ _ _ _ ⟨ks, _, _, rfl, fun _ z => z, rfl, rfl, q⟩
        · rintro x xs s' A' N ⟨r, x1, x2, el, hm, rfl, rfl, q⟩ next
          match r, el, hm, q with
          | [], el, _, _ => cases el
          | [a], el, _, _ => cases el
          | a :: b :: r, el, hm, q =>
            obtain ⟨e1, e2⟩ := List.cons.inj (show x :: xs = .tup [kD a, kD b] :: pairL (kD b :: r.map kD) (r.map kD) from el)
            subst e1 e2
            have ha := hm a (.head _)
            have hb := hm b (.tail _ (.head _))
            walk_at "rd"
            simp only [keyD_k, okQ_some, getA_tabK (v := fun k => D.str (W k)) ha, getA_tabK (v := fun k => D.str (W k)) hb]
            show if gtS (W a) (W b) = true then _ else _
            unfold turnK at q
            cases hp : gtS (W a) (W b) with
            | true => rw [hp] at q; exact ⟨by decide, q⟩
            | false => rw [hp] at q; exact next _ _ ⟨b :: r, _, _, rfl, fun k z => hm k (.tail _ z), rfl, rfl, q⟩
        · rintro s' A' ⟨r, x1, x2, el, hm, rfl, rfl, q⟩
          walk_at "rd"
          match r, el, q with
          | [], el, q => exact ⟨by decide, q⟩
          | [a], el, q => exact ⟨by decide, q⟩
          | a :: b :: r, el, q => cases el) (fun _ _ _ _ _ _ us hl => match us, hl with | [_], _ => rfl)
end
end K66


set_option Elab.async false
set_option linter.all false
set_option maxRecDepth 100000
set_option maxHeartbeats 4000000
namespace K66
open PySem L2 Qd
local macro_rules | `(tactic| walk_at "rd") => `(tactic| simp only [qVar_z, qVar_s, qC, qSeq, qNext, qRet, qRetN, qIfS, qTest, qIs, qOp, qUn, qAnd, qOr, qNot, qAndV, qOrV, qNotV, qCB, qCons, qNil, okQ_some, okQ_none, qIf, qChain, qI, qIC, r1_rd, r2_rd, Qd.rLen, qLc, qIt, rAllQ, rAnyQ, rSumQ, rMinQ, rMaxQ, rAbsQ, rIntQ, newL_f, newL_t, Bool.false_eq_true, if_false, qInS, qEq, qNe, qIsN, qNotN, qDrop, if_true, qDcB, qFill, kkB, qDGet, kkK, qDcK, qFzD, qAsg, tset_nm, tset_tp, tsets_nil, tsets_nm, tsets_tp, wipe_nil, wipe_cons, List.set_cons_zero, List.set_cons_succ, qRaise, qFor, qRng1, qRng2, qTup, qLst, qPar, eqD_int, eqD_str, eqD_bl, itD_lst, itD_tup, itD_dic, lenD_lst, lenD_tup, lenD_dic, dicD_dic, lstD_lst, seqD_lst, seqD_tup, qSl, qoNone, qoSome, qRevL, qLrg1, qLrg2, qCX, qKw, qKwX, List.length_cons, List.length_nil, List.map_cons, List.map_nil, qAsgG, gTupQ, gConsQ, gSubT, gNilQ, qTGet, qDcT, kkT, qNewT, qNewK, List.length_map, Int.toNat_natCast, ditD_mut, qIx_tup, qIx_lst, keysT_2, Bool.or_true, Bool.true_or, Int.zero_add, isN_tup, isN_lst, isN_int, isN_dic, isN_non, at_zero, qMeth, qAddL, qMulL, rTupQ, qCBw, qLX, qLKw, qMet, pick_0, pick_10, qFz, qFzN, qDispF, qNewF, qDictF, qpCons, qpNil, qDispB, qDispT, keyPs, obD, qEqV, gSubQ, qNegI, qMets, at4_0, at4_1, at4_2, at4_3, ix4_1, ix4_2, ix4_3])
local macro_rules | `(tactic| walk_at "rs") => `(tactic| simp only [qVar_z, qVar_s, qC, qNext, qRet, qRetN, qIfS, qTest, qIs, qOp, qUn, qAnd, qOr, qNot, qAndV, qOrV, qNotV, qCB, qCons, qNil, okQ_some, okQ_none, qIf, qChain, qI, qIC, r1_rd, r2_rd, Qd.rLen, qLc, qIt, rAllQ, rAnyQ, rSumQ, rMinQ, rMaxQ, rAbsQ, rIntQ, newL_f, newL_t, Bool.false_eq_true, if_false, qInS, qEq, qNe, qIsN, qNotN, qDrop, if_true, qDcB, qFill, kkB, qDGet, kkK, qDcK, qFzD, qAsg, tset_nm, tset_tp, tsets_nil, tsets_nm, tsets_tp, wipe_nil, wipe_cons, List.set_cons_zero, List.set_cons_succ, qRaise, qFor, qRng1, qRng2, qTup, qLst, qPar, eqD_int, eqD_str, eqD_bl, itD_lst, itD_tup, itD_dic, lenD_lst, lenD_tup, lenD_dic, dicD_dic, lstD_lst, seqD_lst, seqD_tup, qSl, qoNone, qoSome, qRevL, qLrg1, qLrg2, qCX, qKw, qKwX, List.length_cons, List.length_nil, List.map_cons, List.map_nil, qAsgG, gTupQ, gConsQ, gSubT, gNilQ, qTGet, qDcT, kkT, qNewT, qNewK, List.length_map, Int.toNat_natCast, ditD_mut, qIx_tup, qIx_lst, keysT_2, Bool.or_true, Bool.true_or, Int.zero_add, isN_tup, isN_lst, isN_int, isN_dic, isN_non, at_zero, qMeth, qAddL, qMulL, rTupQ, qCBw, qLX, qLKw, qMet, pick_0, pick_10, qFz, qFzN, qDispF, qNewF, qDictF, qpCons, qpNil, qDispB, qDispT, keyPs, obD, qEqV, gSubQ, qNegI, qMets, at4_0, at4_1, at4_2, at4_3, ix4_1, ix4_2, ix4_3])
section
variable {P : Program} {w : World} {K : PySem.W.Frag} {mg : Str → Option Value} {base : Heap}
/-- a symbol that stands in a code -/
def sofQ (A : MH) (ks : List Key) (d : D) : Option Bool := (symQ A d).bind fun b => if b = true then (keyD d).map fun k => ks.any fun j => decide (j = k) else some false
theorem hasA_tab {ks : List Key} {v : Key → D} {k : Key} : hasA (tabK ks v) k = ks.any fun j => decide (j = k) := by
  unfold hasA tabK
  rw [List.any_map]
  rfl
theorem any_mem {ks : List Key} {k : Key} (h : k ∈ ks) : (ks.any fun j => decide (j = k)) = true := List.any_eq_true.mpr ⟨k, h, decide_eq_true rfl⟩
def r_sof : RNQ := fun ds A P => ∃ ks W d, ds = [codD ks W, d] ∧ okQ (sofQ A ks d) fun b => P (.bl b) A
theorem d_is_symbol_of (Z : Nv K mg) : Def P w K mg base 3 "is_symbol_of" (defArgs s_is_symbol_of) ["code", "thing"] r_sof := mkDef Z.f_is_symbol_of (fun f fd F => by
  have S := sc_is_symbol_of
  refine def_ok F S (by rintro ds A P ⟨_, _, _, rfl, _⟩; rfl) fun cdv A outer s H E tb hr => ?_
  have G_is_symbol := d_is_symbol (P := P) (w := w) (base := base) Z
  have HR_is_symbol := hr
  refine ⟨_, (psq_one (psq_ret (pq_and (pq_fn G_is_symbol HR_is_symbol (paq_cons (qv 1) paq_nil)) (pq_one (pq_din (hu_of hr) (qv 1) (qv 0)))))), ?_⟩
  rintro ds A P ⟨ks, W, d, rfl, h⟩
  rw [show startQ ["code", "thing"] [codD ks W, d] = [some (codD ks W), some (d)] from rfl]
  walk_at "rd"
  unfold qDIn
  walk_at "rd"
  unfold sofQ at h
  unfold f_symbol
  cases e : symQ A d with
  | none => rw [e] at h; exact h.elim
  | some b =>
    rw [e, Option.bind_some] at h
    rw [Option.map_some, okQ_some]
    cases b with
    | false => exact h
    | true =>
      rw [if_pos rfl] at h
      show okQ (keyD d) _
      cases ek : keyD d with
      | none => rw [ek] at h; exact h.elim
      | some k =>
        rw [ek] at h
        rw [okQ_some, hasA_tab]
        exact h) (fun _ _ _ _ _ _ us hl => match us, hl with | [_, _], _ => rfl)
def r_rowsOf : RNQ := fun ds A P => ∃ (ks : List Key) (W : Key → Str) (r : List Key), ds = [codD ks W, .lst (r.map kD)] ∧ r.length ≤ 100000 ∧ (∀ k ∈ r, k ∈ ks ∧ symQ A (kD k) = some true) ∧ P (.bl true) A
theorem d_are_rows_of (Z : Nv K mg) : Def P w K mg base 4 "are_rows_of" (defArgs s_are_rows_of) ["code", "thing"] r_rowsOf := mkDef Z.f_are_rows_of (fun f fd F => by
  have S := sc_are_rows_of
  refine def_ok F S (by rintro ds A P ⟨_, _, _, rfl, _⟩; rfl) fun cdv A outer s H E tb hr => ?_
  have G_is_list := d_is_list (P := P) (w := w) (base := base) Z
  have HR_is_list := hr.mono (show 1 ≤ 3 by decide)
  have G_is_symbol_of := d_is_symbol_of (P := P) (w := w) (base := base) Z
  have HR_is_symbol_of := hr
  refine ⟨_, (psq_one (psq_ret (pq_and (pq_fn G_is_list HR_is_list (paq_cons (qv 1) paq_nil)) (pq_one (pq_bi (cq_all rfl) Z.b_all (paq_cons (pq_lc false rfl S.nd (piq_it (qv 1)) (blkOk_by (N := ["code", "thing", "one"]) (sc := defScope s_are_rows_of) (own := [("one", 2)]) (by decide +kernel)) (fun _ _ _ _ _ => (gq_nm 2 S.nd)) (fun _ _ _ _ _ => qts_nil) (fun _ _ _ _ _ => (pq_fn G_is_symbol_of HR_is_symbol_of (paq_cons (qv 0) (paq_cons (qv 2) paq_nil))))) paq_nil)))))), ?_⟩
  rintro ds A P ⟨ks, W, r, rfl, hl, hm, h⟩
  rw [show startQ ["code", "thing", "one"] [codD ks W, .lst (r.map kD)] = [some (codD ks W), some (.lst (r.map kD)), none] from rfl]
  walk_at "rd"
  show compL _ _ _ _ (r.map kD) [] A _
  refine compL_map (fun _ => some (.bl true)) (r.map kD) [] (by rw [List.length_map]; simpa using hl) (fun y hy Q hQ => ?_) ?_
  · obtain ⟨k, hk, rfl⟩ := List.mem_map.mp hy
    show okQ (some [some (codD ks W), some (D.lst (r.map kD)), some (kD k)]) _
    walk_at "rd"
    refine ⟨ks, W, kD k, rfl, ?_⟩
    unfold sofQ
    rw [(hm k hk).2, Option.bind_some, if_pos rfl, keyD_k, Option.map_some, any_mem (hm k hk).1]
    exact hQ
  · refine okQ_mk (mapO_some (fun _ => D.bl true) _) ?_
    rw [show (some ([] ++ (r.map kD).map fun _ => D.bl true)).bind blsD = some (r.map fun _ => true) by
      rw [Option.bind_some, List.nil_append, List.map_map]
      rw [show (r.map ((fun _ => D.bl true) ∘ kD)) = (r.map fun _ => true).map .bl by rw [List.map_map]; rfl]
      exact blsD_map _, okQ_some]
    rw [show ((r.map fun _ => true).all id) = true by simp]
    exact h) (fun _ _ _ _ _ _ us hl => match us, hl with | [_, _], _ => rfl)
def r_bitsOf : RNQ := fun ds A P => ∃ (ks : List Key) (W : Key → Str) (r : List Key), ds = [codD ks W, .lst (r.map kD)] ∧ r.length ≤ 100000 ∧ (∀ k ∈ r, k ∈ ks ∧ (W k).length ≤ 100) ∧ P (.str (Txt.join "" (r.map W))) A
theorem d_bits_of (Z : Nv K mg) : Def P w K mg base 4 "bits_of" (defArgs s_bits_of) ["code", "symbols"] r_bitsOf := mkDef Z.f_bits_of (fun f fd F => by
  have S := sc_bits_of
  refine def_ok F S (by rintro ds A P ⟨_, _, _, rfl, _⟩; rfl) fun cdv A outer s H E tb hr => ?_
  refine ⟨_, (psq_one (psq_ret (pq_join pq_str (pq_lc false rfl S.nd (piq_it (qv 1)) (blkOk_by (N := ["code", "symbols", "one"]) (sc := defScope s_bits_of) (own := [("one", 2)]) (by decide +kernel)) (fun _ _ _ _ _ => (gq_nm 2 S.nd)) (fun _ _ _ _ _ => qts_nil) (fun _ _ _ _ _ => (pq_dget (hu_of hr) (qv 0) (qv 2) (fun _ _ => rfl))))))), ?_⟩
  rintro ds A P ⟨ks, W, r, rfl, hl, hm, h⟩
  rw [show startQ ["code", "symbols", "one"] [codD ks W, .lst (r.map kD)] = [some (codD ks W), some (.lst (r.map kD)), none] from rfl]
  walk_at "rd"
  unfold qJoin
  walk_at "rd"
  show compL _ _ _ _ (r.map kD) [] A _
  refine compL_map (fun d => (keyD d).map fun k => D.str (W k)) (r.map kD) [] (by rw [List.length_map]; simpa using hl) (fun y hy Q hQ => ?_) ?_
  · obtain ⟨k, hk, rfl⟩ := List.mem_map.mp hy
    show okQ (some [some (codD ks W), some (D.lst (r.map kD)), some (kD k)]) _
    walk_at "rd"
    rw [keyD_k, okQ_some, getA_tabK (v := fun k => D.str (W k)) (hm k hk).1, okQ_some]
    rw [keyD_k] at hQ
    exact hQ
  · refine okQ_mk (z := (r.map W).map .str) (by rw [mapO_of_map]; rw [show (fun k => (keyD (kD k)).map fun k => D.str (W k)) = fun k => some (D.str (W k)) from funext fun k => by rw [keyD_k]; rfl, mapO_some, List.map_map]; rfl) ?_
    rw [show (some ([] ++ (r.map W).map D.str)).bind strsD = some (r.map W) from strsD_map _, okQ_some]
    refine ⟨?_, h⟩
    have : ((r.map W).map fun x => x.length).sum ≤ 100 * r.length := by
      clear h
      induction r with
      | nil => exact Nat.zero_le _
      | cons k r ih =>
        rw [List.map_cons, List.map_cons, List.sum_cons, List.length_cons]
        have := (hm k (.head _)).2
        have := ih (by rw [List.length_cons] at hl; omega) fun k z => hm k (.tail _ z)
        omega
    rw [show (Str.ofString "").length = 0 from rfl]
    omega) (fun _ _ _ _ _ _ us hl => match us, hl with | [_, _], _ => rfl)
def r_written : RXQ := fun ds A P x2 => ∃ (d : D) (ks : List Key) (W : Key → Str) (r : List Key), ds = [d, .lst (r.map kD)] ∧ f_keptC A d = some (codD ks W) ∧ r.length ≤ 100000 ∧ (∀ k ∈ r, k ∈ ks ∧ symQ A (kD k) = some true ∧ (W k).length ≤ 100) ∧ P (.str (Txt.join "" (r.map W))) A
theorem d_written_bits (Z : Nv K mg) {C C0 : Addr} (E_BadCode : ErrC P w K mg base 1 "BadCode" C "code") (E_BadSymbols : ErrC P w K mg base 1 "BadSymbols" C0 "symbols") : DefX P w K mg base 6 "written_bits" (defArgs s_written_bits) ["code", "symbols"] r_written := mkDefX Z.f_written_bits (fun f fd F => by
  have S := sc_written_bits
  refine def_okX F S (by rintro ds A P x2 ⟨_, _, _, _, rfl, _⟩; rfl) fun cdv A outer s H E tb x2 hr => ?_
  have G_need_code := d_need_code (P := P) (w := w) (base := base) Z E_BadCode
  have HR_need_code := hr
  have G_are_rows_of := d_are_rows_of (P := P) (w := w) (base := base) Z
  have HR_are_rows_of := hr.mono (show 4 ≤ 5 by decide)
  have G_bits_of := d_bits_of (P := P) (w := w) (base := base) Z
  have HR_bits_of := hr.mono (show 4 ≤ 5 by decide)
  have HR_BadSymbols := hr.mono (show 2 ≤ 5 by decide)
  refine ⟨_, (psq_cons (psq_set (i := 2) S.nd (pq_fnX G_need_code HR_need_code pass_own (paq_cons (qv 0) paq_nil))) (psq_cons (psq_if (ptq_not (ptq_val (pq_fn G_are_rows_of HR_are_rows_of (paq_cons (qv 2) (paq_cons (qv 1) paq_nil))))) (psq_one (psq_raise E_BadSymbols rfl HR_BadSymbols pass_cx (qv 1))) psq_nil) (psq_one (psq_ret (pq_fn G_bits_of HR_bits_of (paq_cons (qv 2) (paq_cons (qv 1) paq_nil))))))), ?_⟩
  rintro ds A P ⟨d, ks, W, r, rfl, hk, hl, hm, h⟩
  rw [show startQ ["code", "symbols", "kept"] [d, .lst (r.map kD)] = [some (d), some (.lst (r.map kD)), none] from rfl]
  walk_at "rd"
  refine ⟨d, rfl, ?_⟩
  rw [hk, okQ_some]
  rw [if_neg (show ¬ isN (codD ks W) = true by rw [isN_dic]; decide)]
  show r_rowsOf [codD ks W, .lst (r.map kD)] A _
  refine ⟨ks, W, r, rfl, hl, fun k z => ⟨(hm k z).1, (hm k z).2.1⟩, ?_⟩
  exact ⟨ks, W, r, rfl, hl, fun k z => ⟨(hm k z).1, (hm k z).2.2⟩, h⟩) (fun _ _ _ _ _ _ us hl => match us, hl with | [_, _], _ => rfl)
end
end K66


set_option Elab.async false
set_option linter.all false
set_option maxRecDepth 100000
set_option maxHeartbeats 4000000
/-! what is drawn when the cells are used up: every few numbers come at some time -/
namespace K66
theorem pow_mod {a b p : Int} (h : a % p = b % p) : ∀ k : Nat, a ^ k % p = b ^ k % p
  | 0 => by rw [Int.pow_zero, Int.pow_zero]
  | k + 1 => by rw [Int.pow_succ, Int.pow_succ, Int.mul_emod, pow_mod h k, h, ← Int.mul_emod]
def far : Nat := 2147483644032385403
theorem crt (z y u v : Int) : ∃ t : Nat, t < far ∧ (z + 7919 * (y + t) + 104729 - u) % 2147483629 = 0 ∧ (30011 * (y + t) + 29 - v) % 1000000007 = 0 := by
  have h : ∃ t : Int, 0 ≤ t ∧ t < 2147483644032385403 ∧ (z + 7919 * (y + t) + 104729 - u) % 2147483629 = 0 ∧ (30011 * (y + t) + 29 - v) % 1000000007 = 0 := by
    refine ⟨(((u - z - 104729) * 347925432 - y) * 855307776987154397 + ((v - 29) * 282796310 - y) * 1292175867045231007) % 2147483644032385403, Int.emod_nonneg _ (by decide), Int.emod_lt_of_pos _ (by decide), ?_, ?_⟩ <;> omega
  obtain ⟨t, h1, h2, h3, h4⟩ := h
  obtain ⟨n, rfl⟩ := Int.eq_ofNat_of_zero_le h1
  exact ⟨n, by unfold far; omega, h3, h4⟩
def gG (u v j : Int) : Int := (((u + 7919 * j) ^ 5 % 2147483629) * 48271 + v + 30011 * j) ^ 3 % 1000000007
theorem gdraw_G {z y u v : Int} (h1 : (z + 7919 * y + 104729 - u) % 2147483629 = 0) (h2 : (30011 * y + 29 - v) % 1000000007 = 0) (j : Int) : gdraw z (y + j) = gG u v j := by
  unfold gdraw gG
  rw [pow_mod (p := 2147483629) (a := z + 7919 * (y + j) + 104729) (b := u + 7919 * j) (by omega) 5]
  exact pow_mod (by omega) 3
def hitTab : List (List Int) := [[], [], [0, 1], [0, 1, 2], [0, 1, 1001, 3], [0, 1, 3, 2, 4], [0, 1, 2, 3, 4, 5], [0, 1, 1002, 1261, 1443, 1590, 3], [0, 1, 1001, 3, 1003, 5, 1005, 7], [0, 1, 1003, 1261, 1444, 1588, 1711, 1819, 2], [0, 1, 8, 7, 4, 5, 6, 3, 2, 9]]
theorem hitTab_ok : ∀ n < 11, ∀ i < n, 2 ≤ n → gG 0 (((hitTab.getD n []).getD i 0)) 0 % (n : Int) = (i : Int) := by decide +kernel
theorem hit {n i : Nat} (h2 : 2 ≤ n) (h3 : n ≤ 10) (hi : i < n) (z y : Int) : ∃ t : Nat, t < far ∧ gdraw z (y + t) % (n : Int) = (i : Int) := by
  obtain ⟨t, h1, h4, h5⟩ := crt z y 0 ((hitTab.getD n []).getD i 0)
  refine ⟨t, h1, ?_⟩
  have := gdraw_G h4 h5 0
  rw [Int.add_zero] at this
  rw [this]
  exact hitTab_ok n (by omega) i hi h2
/-! ### six windows: whichever draw a word begins with, it is one of few -/
def gWord (g : Int → Int) : List Bool := (List.range (1 + g 0 % 5).toNat).map fun i : Nat => decide (g (1 + (i : Int)) % 2 = 1)
def winU : List (Int × Int) := [(0, 92), (2, 144), (23, 193), (30, 292), (3, 193), (7, 154)]
def o : Bool := false
def i : Bool := true
def winW : List (List (List Bool)) := [[[o, o], [i, o, o, o]], [[i, i], [i]], [[i, i, i], [i, i, o, o]], [[o, o, o, o], [o]], [[o, i], [i, o, i, o, i], [i, o, i, i]], [[o, o, o, o, o], [o, o, o], [o, o, o, i]]]
theorem win_ok : ∀ k < 6, ∀ s : Nat, s < 6 → gWord (fun j => gG (winU.getD k (0, 0)).1 (winU.getD k (0, 0)).2 ((s : Int) + j)) ∈ winW.getD k [] := by decide +kernel
theorem win_apart : winW.flatten.Nodup := by decide +kernel
theorem sub_len {α : Type} [DecidableEq α] : ∀ (l ws : List α), l.Nodup → (∀ x ∈ l, x ∈ ws) → l.length ≤ ws.length
  | [], _, _, _ => Nat.zero_le _
  | x :: l, ws, h, hs => by
    have hx := hs x (.head _)
    have := sub_len l (ws.erase x) (List.nodup_cons.mp h).2 (fun y hy => (List.mem_erase_of_ne (fun z => (List.nodup_cons.mp h).1 (by rw [← z]; exact hy))).mpr (hs y (.tail _ hy)))
    rw [List.length_erase_of_mem hx] at this
    have := List.length_pos_of_mem hx
    rw [List.length_cons]
    omega
theorem pick_each {α : Type} [DecidableEq α] {ws : List α} : ∀ {S : List (List α)}, S.flatten.Nodup → (∀ l ∈ S, ∃ x ∈ l, x ∈ ws) → ∃ xs : List α, xs.length = S.length ∧ xs.Nodup ∧ (∀ x ∈ xs, x ∈ ws) ∧ ∀ x ∈ xs, x ∈ S.flatten
  | [], _, _ => ⟨[], rfl, .nil, (fun _ h => nomatch h), (fun _ h => nomatch h)⟩
  | l :: S, hn, h => by
    rw [List.flatten_cons, List.nodup_append] at hn
    obtain ⟨xs, h1, h2, h3, h4⟩ := pick_each hn.2.1 fun l hl => h l (.tail _ hl)
    obtain ⟨x, h5, h6⟩ := h l (.head _)
    refine ⟨x :: xs, by rw [List.length_cons, List.length_cons, h1], List.nodup_cons.mpr ⟨fun z => hn.2.2 x h5 x (h4 x z) rfl, h2⟩, ?_, ?_⟩
    · intro y hy
      cases hy with
      | head => exact h6
      | tail _ hy => exact h3 y hy
    · intro y hy
      rw [List.flatten_cons, List.mem_append]
      cases hy with
      | head => exact .inl h5
      | tail _ hy => exact .inr (h4 y hy)
/-- of a few words one window has none -/
theorem win_new {ws : List (List Bool)} (h : ws.length ≤ 5) : ∃ k < 6, ∀ w ∈ winW.getD k [], w ∉ ws := by
  by_cases hc : ∀ l ∈ winW, ∃ x ∈ l, x ∈ ws
  · obtain ⟨xs, h1, h2, h3, _⟩ := pick_each win_apart hc
    have := sub_len xs ws h2 h3
    rw [h1] at this
    have : (6 : Nat) ≤ ws.length := this
    omega
  · rw [Classical.not_forall] at hc
    obtain ⟨l, hl⟩ := hc
    rw [Classical.not_imp] at hl
    obtain ⟨hl, hn⟩ := hl
    obtain ⟨k, hk, e⟩ := List.getElem_of_mem hl
    refine ⟨k, hk, fun w hw hx => hn ⟨w, ?_, hx⟩⟩
    rw [← e]
    rwa [List.getD_eq_getElem?_getD, List.getElem?_eq_getElem hk] at hw
/-- from any time on: six draws come, with each of which there begins a word that is none of these few -/
theorem win_hit {ws : List (List Bool)} (h : ws.length ≤ 5) (z y : Int) : ∃ t : Nat, t < far ∧ ∀ s : Nat, s < 6 → gWord (fun j => gdraw z (y + t + (s + j))) ∉ ws := by
  obtain ⟨k, hk, hw⟩ := win_new h
  obtain ⟨t, h1, h4, h5⟩ := crt z y (winU.getD k (0, 0)).1 (winU.getD k (0, 0)).2
  refine ⟨t, h1, fun s hs => ?_⟩
  rw [show (fun j => gdraw z (y + t + (s + j))) = fun j => gG (winU.getD k (0, 0)).1 (winU.getD k (0, 0)).2 ((s : Int) + j) from funext fun j => gdraw_G h4 h5 _]
  exact hw _ (win_ok k hk s hs)
end K66


set_option Elab.async false
set_option linter.all false
set_option maxRecDepth 100000
set_option maxHeartbeats 4000000
/-! words of bits, trees of them -/
namespace K66
open PySem L2 Qd
def sgn (c : Bool) : Nat := if c then 49 else 48
def sw (b : List Bool) : Str := ⟨(b.map sgn).toArray⟩
theorem sgn_inj {a b : Bool} (h : sgn a = sgn b) : a = b := by cases a <;> cases b <;> first | rfl | cases h
theorem sw_cps (b : List Bool) : (sw b).cps.toList = b.map sgn := rfl
theorem sw_len (b : List Bool) : (sw b).length = b.length := by
  show (b.map sgn).toArray.size = _
  rw [List.size_toArray, List.length_map]
theorem sw_inj {a b : List Bool} (h : sw a = sw b) : a = b := by
  have : (sw a).cps.toList = (sw b).cps.toList := by rw [h]
  rw [sw_cps, sw_cps] at this
  exact List.map_inj_right (fun _ _ e => sgn_inj e) |>.mp this
theorem sw_app (a b : List Bool) : sw a ++ sw b = sw (a ++ b) := by
  unfold sw
  rw [List.map_append]
  show (⟨_ ++ _⟩ : Str) = _
  rw [List.append_toArray]
abbrev Apart (a b : List Bool) : Prop := ¬ a <+: b ∧ ¬ b <+: a
/-- a whole tree of words -/
structure Tree (bs : List (List Bool)) : Prop where
  ap : bs.Pairwise Apart
  sz : ∀ w ∈ bs, 1 ≤ w.length ∧ w.length ≤ 8
  sm : (bs.map fun w => 2 ^ (8 - w.length)).sum = 256
theorem apart_ext {x w : List Bool} {c : Bool} (h : Apart x w) : Apart x (w ++ [c]) := by
  refine ⟨fun z => ?_, fun z => h.2 ((List.prefix_append w [c]).trans z)⟩
  rcases List.prefix_concat_iff.mp z with e | e
  · exact h.2 (e ▸ List.prefix_append w [c])
  · exact h.1 e
theorem apart_comm {x w : List Bool} (h : Apart x w) : Apart w x := ⟨h.2, h.1⟩
theorem apart_two (w : List Bool) : Apart (w ++ [false]) (w ++ [true]) := by
  constructor
  · intro h
    have := h.eq_of_length (by simp)
    have := List.append_cancel_left this
    cases this
  · intro h
    have := h.eq_of_length (by simp)
    have := List.append_cancel_left this
    cases this
theorem Tree.split {l r : List (List Bool)} {w : List Bool} (h : Tree (l ++ w :: r)) (hw : w.length < 8) : Tree (l ++ [w ++ [false], w ++ [true]] ++ r) := by
  have hp := h.ap
  rw [List.pairwise_append, List.pairwise_cons] at hp
  obtain ⟨h1, ⟨h2, h3⟩, h4⟩ := hp
  refine ⟨?_, fun x hx => ?_, ?_⟩
  · rw [List.append_assoc, List.pairwise_append]
    refine ⟨h1, ?_, fun a ha b hb => ?_⟩
    · show List.Pairwise Apart ((w ++ [false]) :: (w ++ [true]) :: r)
      rw [List.pairwise_cons, List.pairwise_cons]
      refine ⟨fun a ha => ?_, fun a ha => ?_, h3⟩
      · cases ha with
        | head => exact apart_two w
        | tail _ ha => exact apart_comm (apart_ext (apart_comm (h2 a ha)))
      · exact apart_comm (apart_ext (apart_comm (h2 a ha)))
    · have hb : b ∈ (w ++ [false]) :: (w ++ [true]) :: r := hb
      cases hb with
      | head => exact apart_ext (h4 a ha w (.head _))
      | tail _ hb => cases hb with
        | head => exact apart_ext (h4 a ha w (.head _))
        | tail _ hb => exact h4 a ha b (.tail _ hb)
  · have hs := h.sz
    rw [List.append_assoc, List.mem_append] at hx
    rcases hx with hx | hx
    · exact hs x (List.mem_append_left _ hx)
    · have hx : x ∈ (w ++ [false]) :: (w ++ [true]) :: r := hx
      have := hs w (List.mem_append_right _ (.head _))
      cases hx with
      | head => simp; omega
      | tail _ hx => cases hx with
        | head => simp; omega
        | tail _ hx => exact hs x (List.mem_append_right _ (.tail _ hx))
  · have := h.sm
    simp only [List.map_append, List.map_cons, List.map_nil, List.sum_append, List.sum_cons, List.sum_nil, List.length_append, List.length_cons, List.length_nil] at this ⊢
    rw [show 8 - w.length = (8 - (w.length + (0 + 1))) + 1 by omega, Nat.pow_succ] at this
    omega
theorem sum_const {bs : List (List Bool)} (h : ∀ w ∈ bs, ¬ w.length < 8) : (bs.map fun w => 2 ^ (8 - w.length)).sum = bs.length := by
  induction bs with
  | nil => rfl
  | cons w bs ih =>
    rw [List.map_cons, List.sum_cons, List.length_cons, ih fun x hx => h x (.tail _ hx)]
    have := h w (.head _)
    rw [show 8 - w.length = 0 by omega]
    omega
theorem Tree.short {bs : List (List Bool)} (h : Tree bs) (hl : bs.length < 256) : ∃ i w, i < bs.length ∧ bs[i]? = some w ∧ w.length < 8 := by
  by_cases hc : ∀ w ∈ bs, ¬ w.length < 8
  · have := sum_const hc
    rw [h.sm] at this
    omega
  · rw [Classical.not_forall] at hc
    obtain ⟨w, hw⟩ := hc
    rw [Classical.not_imp, Classical.not_not] at hw
    obtain ⟨k, hk, e⟩ := List.getElem_of_mem hw.1
    exact ⟨k, w, hk, by rw [List.getElem?_eq_getElem hk, e], hw.2⟩
theorem tree0 : Tree [[false], [true]] := ⟨by decide, by decide, rfl⟩
theorem join_sw : ∀ l : List (List Bool), Txt.join "" (l.map sw) = sw l.flatten
  | [] => rfl
  | [p] => by
    rw [TL.join_eq, List.flatten_cons, List.flatten_nil, List.append_nil]
    rfl
  | p :: q :: r => by
    have h := join_sw (q :: r)
    rw [TL.join_eq] at h ⊢
    show sw p ++ sw [] ++ Str.join "" ((q :: r).map sw) = _
    rw [sw_app, List.append_nil, h, sw_app]
    rfl
theorem flat_one {α : Type} : ∀ w : List α, (w.map fun c => [c]).flatten = w
  | [] => rfl
  | c :: w => by rw [List.map_cons, List.flatten_cons, flat_one w]; rfl
theorem choose_list {α β : Type} : ∀ (out : List α) (Q : Nat → β → α → Prop), (∀ i y, out[i]? = some y → ∃ c, Q i c y) → ∃ w : List β, w.length = out.length ∧ ∀ i c y, w[i]? = some c → out[i]? = some y → Q i c y
  | [], _, _ => ⟨[], rfl, fun i c y h => by simp at h⟩
  | y :: out, Q, h => by
    obtain ⟨c, hc⟩ := h 0 y rfl
    obtain ⟨w, h1, h2⟩ := choose_list out (fun i => Q (i + 1)) fun i y e => h (i + 1) y (by simpa using e)
    refine ⟨c :: w, by simp [h1], fun i c2 y2 e1 e2 => ?_⟩
    cases i with
    | zero => cases e1; cases e2; exact hc
    | succ i => exact h2 i c2 y2 (by simpa using e1) (by simpa using e2)
end K66


set_option Elab.async false
set_option linter.all false
set_option maxRecDepth 100000
set_option maxHeartbeats 4000000
namespace K66
open PySem L2 Qd
local macro_rules | `(tactic| walk_at "rd") => `(tactic| simp only [qVar_z, qVar_s, qC, qSeq, qNext, qRet, qRetN, qIfS, qTest, qIs, qOp, qUn, qAnd, qOr, qNot, qAndV, qOrV, qNotV, qCB, qCons, qNil, okQ_some, okQ_none, qIf, qChain, qI, qIC, r1_rd, r2_rd, Qd.rLen, qLc, qIt, rAllQ, rAnyQ, rSumQ, rMinQ, rMaxQ, rAbsQ, rIntQ, newL_f, newL_t, Bool.false_eq_true, if_false, qInS, qEq, qNe, qIsN, qNotN, qDrop, if_true, qDcB, qFill, kkB, qDGet, kkK, qDcK, qFzD, qAsg, tset_nm, tset_tp, tsets_nil, tsets_nm, tsets_tp, wipe_nil, wipe_cons, List.set_cons_zero, List.set_cons_succ, qRaise, qFor, qRng1, qRng2, qTup, qLst, qPar, eqD_int, eqD_str, eqD_bl, itD_lst, itD_tup, itD_dic, lenD_lst, lenD_tup, lenD_dic, dicD_dic, lstD_lst, seqD_lst, seqD_tup, qSl, qoNone, qoSome, qRevL, qLrg1, qLrg2, qCX, qKw, qKwX, List.length_cons, List.length_nil, List.map_cons, List.map_nil, qAsgG, gTupQ, gConsQ, gSubT, gNilQ, qTGet, qDcT, kkT, qNewT, qNewK, List.length_map, Int.toNat_natCast, ditD_mut, qIx_tup, qIx_lst, keysT_2, Bool.or_true, Bool.true_or, Int.zero_add, isN_tup, isN_lst, isN_int, isN_dic, isN_non, at_zero, qMeth, qAddL, qMulL, rTupQ, qCBw, qLX, qLKw, qMet, pick_0, pick_10, qFz, qFzN, qDispF, qNewF, qDictF, qpCons, qpNil, qDispB, qDispT, keyPs, obD, qEqV, gSubQ, qNegI, qMets, at4_0, at4_1, at4_2, at4_3, ix4_1, ix4_2, ix4_3])
local macro_rules | `(tactic| walk_at "rs") => `(tactic| simp only [qVar_z, qVar_s, qC, qNext, qRet, qRetN, qIfS, qTest, qIs, qOp, qUn, qAnd, qOr, qNot, qAndV, qOrV, qNotV, qCB, qCons, qNil, okQ_some, okQ_none, qIf, qChain, qI, qIC, r1_rd, r2_rd, Qd.rLen, qLc, qIt, rAllQ, rAnyQ, rSumQ, rMinQ, rMaxQ, rAbsQ, rIntQ, newL_f, newL_t, Bool.false_eq_true, if_false, qInS, qEq, qNe, qIsN, qNotN, qDrop, if_true, qDcB, qFill, kkB, qDGet, kkK, qDcK, qFzD, qAsg, tset_nm, tset_tp, tsets_nil, tsets_nm, tsets_tp, wipe_nil, wipe_cons, List.set_cons_zero, List.set_cons_succ, qRaise, qFor, qRng1, qRng2, qTup, qLst, qPar, eqD_int, eqD_str, eqD_bl, itD_lst, itD_tup, itD_dic, lenD_lst, lenD_tup, lenD_dic, dicD_dic, lstD_lst, seqD_lst, seqD_tup, qSl, qoNone, qoSome, qRevL, qLrg1, qLrg2, qCX, qKw, qKwX, List.length_cons, List.length_nil, List.map_cons, List.map_nil, qAsgG, gTupQ, gConsQ, gSubT, gNilQ, qTGet, qDcT, kkT, qNewT, qNewK, List.length_map, Int.toNat_natCast, ditD_mut, qIx_tup, qIx_lst, keysT_2, Bool.or_true, Bool.true_or, Int.zero_add, isN_tup, isN_lst, isN_int, isN_dic, isN_non, at_zero, qMeth, qAddL, qMulL, rTupQ, qCBw, qLX, qLKw, qMet, pick_0, pick_10, qFz, qFzN, qDispF, qNewF, qDictF, qpCons, qpNil, qDispB, qDispT, keyPs, obD, qEqV, gSubQ, qNegI, qMets, at4_0, at4_1, at4_2, at4_3, ix4_1, ix4_2, ix4_3])
section
variable {P : Program} {w : World} {K : PySem.W.Frag} {mg : Str → Option Value} {base : Heap}
@[irreducible] def wMany : Nat := 13 * far + 70000100
def wD (bs : List (List Bool)) : List D := bs.map fun b => .str (sw b)
def r_words : RNQ := fun ds A P => ∃ (a b : Addr) (k m : Nat), ds = [.mut a, .int m] ∧ 0 < m ∧ m ≤ 11 ∧ Strm A a b k ∧ k + wMany ≤ maxDraws ∧ ∀ (bs : List (List Bool)) A', bs.length = m → bs.Pairwise Apart → (∀ w ∈ bs, 1 ≤ w.length ∧ w.length ≤ 8) → Strm A' a b (k + wMany) → Off a b A A' → P (.lst (wD bs)) A'
/-- how far it is to the draw that helps -/
def Dst (bs : List (List Bool)) (F : Nat) (z y : Int) (d : Nat) : Prop := d ≤ far ∧ (0 < F → d = far) ∧ (F = 0 → d < far ∧ (bs.length ≤ 10 → ∃ (i : Nat) (w : List Bool), i < bs.length ∧ bs[i]? = some w ∧ w.length < 8 ∧ gdraw z (y + 1 + d) % (bs.length : Int) = (i : Int)))
theorem dst_any {bs : List (List Bool)} (h : Tree bs) (h2 : 2 ≤ bs.length) (F : Nat) (z y : Int) : ∃ d, Dst bs F z y d := by
  by_cases hF : 0 < F
  · exact ⟨far, Nat.le_refl _, fun _ => rfl, fun e => by omega⟩
  by_cases hl : bs.length ≤ 10
  · obtain ⟨i, w, hi, e, hw⟩ := h.short (by omega)
    obtain ⟨d, hd, hg⟩ := hit h2 hl hi z (y + 1)
    exact ⟨d, Nat.le_of_lt hd, fun e => absurd e hF, fun _ => ⟨hd, fun _ => ⟨i, w, hi, e, hw, hg⟩⟩⟩
  · exact ⟨0, Nat.zero_le _, fun e => absurd e hF, fun _ => ⟨by decide, fun e => absurd e hl⟩⟩
theorem wD_get {bs : List (List Bool)} {i : Nat} : (wD bs)[i]? = (bs[i]?).map fun b => D.str (sw b) := by
  unfold wD
  rw [List.getElem?_map]
theorem wD_len (bs : List (List Bool)) : (wD bs).length = bs.length := List.length_map ..
theorem d__law_e_words (Z : Nv K mg) : Def P w K mg base 3 "_law_e_words" (defArgs s__law_e_words) ["stream", "many"] r_words := mkDef Z.f__law_e_words (fun f fd F => by
  have S := sc__law_e_words
  refine def_ok F S (by rintro ds A P ⟨a, b, k, m, rfl, _⟩; rfl) fun cdv A outer s H E tb hr => ?_
  have G__law_draw := d_drawF (P := P) (w := w) (base := base) Z
  have HR__law_draw := hr.mono (show 1 ≤ 2 by decide)
  have G__law_mixed := d__law_mixed (P := P) (w := w) (base := base) Z
  have HR__law_mixed := hr
  refine ⟨_, (psq_cons (psq_set (i := 2) S.nd (pq_lst false (paq_cons pq_str (paq_cons pq_str paq_nil)))) (psq_cons (psq_while PassesOwn.never (ptq_ltI (pq_bi cq_len Z.b_len (paq_cons (qv 2) paq_nil)) (qv 1)) (psq_cons (psq_set (i := 3) S.nd (pq_fn G__law_draw HR__law_draw (paq_cons (qv 0) (paq_cons (pq_bi cq_len Z.b_len (paq_cons (qv 2) paq_nil)) paq_nil)))) (psq_one (psq_if (ptq_ltI (pq_bi cq_len Z.b_len (paq_cons (pq_ix (qv 2) (qv 3)) paq_nil)) pq_int) (psq_one (psq_set (i := 2) S.nd (pq_addL false (pq_addL false (pq_slice false (qv 2) poq_none (poq_some (qv 3))) (pq_lst false (paq_cons (pq_addS (pq_ix (qv 2) (qv 3)) pq_str) (paq_cons (pq_addS (pq_ix (qv 2) (qv 3)) pq_str) paq_nil)))) (pq_slice false (qv 2) (poq_some (pq_addI (qv 3) pq_int)) poq_none)))) psq_nil)))) (psq_one (psq_ret (pq_slice false (pq_fn G__law_mixed HR__law_mixed (paq_cons (qv 0) (paq_cons (qv 2) paq_nil))) poq_none (poq_some (qv 1))))))), ?_⟩
  rintro ds A P ⟨a, b, k, m, rfl, hm0, hm1, hs, hk, h⟩
  rw [show startQ ["stream", "many", "found", "at"] [D.mut a, D.int m] = [some (D.mut a), some (D.int m), none, none] from rfl]
  refine qSeq_st fun N1 n1 => ?_
  walk_at "rs"
  refine ⟨by decide, n1 _ _ (qSeq_st fun N2 n2 => ?_)⟩
  obtain ⟨F0, y0, z0, hx0, hy0, hF0⟩ := hs
  obtain ⟨d0, hd0⟩ := dst_any tree0 (by decide) F0 z0 y0
  refine ⟨fun μ s' A' => ∃ (bs : List (List Bool)) (x3 : Option D) (F y : Nat) (z : Int) (d : Nat), s' = [some (.mut a), some (.int m), some (.lst (wD bs)), x3] ∧ Tree bs ∧ 2 ≤ bs.length ∧ bs.length ≤ 11 ∧ StrX A' a b F y z ∧ Off a b A A' ∧ F ≤ 70000000 ∧ Dst bs F z y d ∧ μ = (12 - bs.length) * far + F + d ∧ y + μ ≤ k + 11 * far + 70000000 ∧ (bs.length ≤ m ∨ bs.length = 2), ⟨_, [[false], [true]], _, F0, y0, z0, d0, rfl, tree0, by decide, by decide, hx0, Off.refl A, hF0, hd0, rfl, ?_, .inr rfl⟩, ?_⟩
  · have := hd0.1
    show y0 + ((12 - 2) * far + F0 + d0) ≤ _
    omega
  rintro μ s' A' ⟨bs, x3, F, y, z, d, rfl, ht, h2, h11, hx, ho, hF, hd, rfl, hb, hm⟩
  walk_at "rd"
  rw [wD_len]
  by_cases hc : bs.length < m
  case neg =>
    rw [if_neg (by rw [decide_eq_true_eq]; omega)]
    refine n2 _ _ ?_
    walk_at "rd"
    have hF1 : F + d ≤ 70000000 + far := by have := hd.1; omega
    refine ⟨a, b, k + 11 * far + 70000000, wD bs, rfl, by rw [wD_len]; omega, ⟨F, y, z, hx, by omega, hF⟩, by rw [wD_len]; unfold wMany at hk; omega, fun ys A2 hp hs2 ho2 => ?_⟩
    obtain ⟨bs2, rfl, hp2⟩ := perm_map (f := fun b => D.str (sw b)) hp bs rfl
    show P (.lst (cutD (wD bs2) none (some (m : Int)))) A2
    rw [cut_take]
    have ha : bs2.Pairwise Apart := (hp2.pairwise_iff fun h => apart_comm h).mpr ht.ap
    refine (show (wD bs2).take m = wD (bs2.take m) by unfold wD; rw [List.map_take]) ▸ h (bs2.take m) A2 ?_ (List.Pairwise.sublist (List.take_sublist _ _) ha) (fun w hw => ht.sz w (hp2.mem_iff.mp (List.mem_of_mem_take hw))) (hs2.up (by rw [wD_len]; unfold wMany; omega)) (ho.trans ho2)
    rw [List.length_take, hp2.length_eq]
    omega
  rw [if_pos (by rw [decide_eq_true_eq]; omega)]
  refine ⟨a, b, F, y, z, (bs.length : Int), rfl, by omega, by omega, hx, by unfold wMany at hk; omega, fun v A2 F2 z2 hv0 hv1 hx2 ho2 hF2 hg => ?_⟩
  obtain ⟨i, rfl⟩ := Int.eq_ofNat_of_zero_le hv0
  have hi : i < bs.length := by omega
  have hbi : bs[i]? = some bs[i] := List.getElem?_eq_getElem hi
  have hat : L2.atI (wD bs) (i : Int) = some (.str (sw bs[i])) := by
    rw [at_nat, wD_get, hbi]
    rfl
  have hwl := ht.sz bs[i] (List.getElem_mem hi)
  rw [qIx_lst, hat, okQ_some, lenD_str (by rw [sw_len]; omega), okQ_some, sw_len]
  by_cases hl : bs[i].length < 8
  case neg =>
    rw [if_neg (by rw [decide_eq_true_eq]; omega)]
    have hd2 : ∃ d2, Dst bs F2 z2 ((y + 1 : Nat) : Int) d2 ∧ F2 + d2 < F + d := by
      rcases hg with hg | ⟨e1, e2, rfl, hv⟩
      · have := hg (by omega)
        obtain ⟨d2, hd2⟩ := dst_any ht h2 F2 z2 ((y + 1 : Nat) : Int)
        refine ⟨d2, hd2, ?_⟩
        have e := hd.2.1 (by omega)
        by_cases e0 : F2 = 0
        · have := (hd2.2.2 e0).1
          omega
        · have := hd2.1
          omega
      · obtain ⟨h3, h4⟩ := hd.2.2 e1
        obtain ⟨j, w, hj, ej, hw, hgj⟩ := h4 (by omega)
        have hd0 : d ≠ 0 := fun e => by
          rw [e, show (y : Int) + 1 + ((0 : Nat) : Int) = (y : Int) + 1 by omega, ← hv] at hgj
          have : i = j := by omega
          subst this
          rw [hbi] at ej
          cases ej
          exact hl hw
        refine ⟨d - 1, ⟨by omega, fun e => by omega, fun _ => ⟨by omega, fun _ => ⟨j, w, hj, ej, hw, ?_⟩⟩⟩, by omega⟩
        rw [← hgj]
        congr 2
        omega
    obtain ⟨d2, hd2, hlt⟩ := hd2
    refine ⟨(12 - bs.length) * far + F2 + d2, by omega, bs, _, F2, y + 1, z2, d2, rfl, ht, h2, h11, hx2, ho.trans ho2, by omega, hd2, rfl, by omega, hm⟩
  rw [if_pos (by rw [decide_eq_true_eq]; omega)]
  walk_at "rd"
  rw [hat]
  walk_at "rd"
  rw [show Str.ofString "0" = sw [false] from rfl, show Str.ofString "1" = sw [true] from rfl]
  have e0 : (sw bs[i]).length + 1 ≤ 100000 := by rw [sw_len]; omega
  refine (show _ ∧ _ from ⟨e0, (show _ ∧ _ from ⟨e0, by decide, ?_, ?_, ?_⟩)⟩)
  · rw [cut_take, List.length_take, wD_len]; omega
  · rw [List.length_append, cut_take, List.length_take, wD_len, show ((i : Int) + 1) = ((i + 1 : Nat) : Int) from rfl, cut_drop, List.length_drop, wD_len]; simp; omega
  · have hspl : bs.take i ++ bs[i] :: bs.drop (i + 1) = bs := by rw [List.getElem_cons_drop, List.take_append_drop]
    have ht2 := Tree.split (l := bs.take i) (r := bs.drop (i + 1)) (w := bs[i]) (by rw [hspl]; exact ht) hl
    have hl2 : (bs.take i ++ [bs[i] ++ [false], bs[i] ++ [true]] ++ bs.drop (i + 1)).length = bs.length + 1 := by simp; omega
    obtain ⟨d2, hd2⟩ := dst_any ht2 (by rw [hl2]; omega) F2 z2 ((y + 1 : Nat) : Int)
    have hlt : F2 + d2 < far + F + d := by
      by_cases e0 : F2 = 0
      · have := (hd2.2.2 e0).1
        omega
      · have := hd2.1
        have := hd.2.1 (by omega)
        omega
    have hmul : (12 - bs.length) * far = (12 - (bs.length + 1)) * far + far := by
      rw [show 12 - bs.length = (12 - (bs.length + 1)) + 1 by omega, Nat.add_mul, Nat.one_mul]
    refine ⟨(12 - (bs.length + 1)) * far + F2 + d2, by omega, _, some (.int (i : Int)), F2, y + 1, z2, d2, ?_, ht2, by rw [hl2]; omega, by rw [hl2]; omega, hx2, ho.trans ho2, by omega, hd2, by rw [hl2], by omega, .inl (by rw [hl2]; omega)⟩
    rw [cut_take, show ((i : Int) + 1) = ((i + 1 : Nat) : Int) from rfl, cut_drop, sw_app, sw_app]
    unfold wD
    rw [List.map_append, List.map_append, List.map_take, List.map_drop]
    rfl) (fun _ _ _ _ _ _ us hl => match us, hl with | [_, _], _ => rfl)
end
end K66


set_option Elab.async false
set_option linter.all false
set_option maxRecDepth 100000
set_option maxHeartbeats 4000000
namespace K66
open PySem L2 Qd
local macro_rules | `(tactic| walk_at "rd") => `(tactic| simp only [qVar_z, qVar_s, qC, qSeq, qNext, qRet, qRetN, qIfS, qTest, qIs, qOp, qUn, qAnd, qOr, qNot, qAndV, qOrV, qNotV, qCB, qCons, qNil, okQ_some, okQ_none, qIf, qChain, qI, qIC, r1_rd, r2_rd, Qd.rLen, qLc, qIt, rAllQ, rAnyQ, rSumQ, rMinQ, rMaxQ, rAbsQ, rIntQ, newL_f, newL_t, Bool.false_eq_true, if_false, qInS, qEq, qNe, qIsN, qNotN, qDrop, if_true, qDcB, qFill, kkB, qDGet, kkK, qDcK, qFzD, qAsg, tset_nm, tset_tp, tsets_nil, tsets_nm, tsets_tp, wipe_nil, wipe_cons, List.set_cons_zero, List.set_cons_succ, qRaise, qFor, qRng1, qRng2, qTup, qLst, qPar, eqD_int, eqD_str, eqD_bl, itD_lst, itD_tup, itD_dic, lenD_lst, lenD_tup, lenD_dic, dicD_dic, lstD_lst, seqD_lst, seqD_tup, qSl, qoNone, qoSome, qRevL, qLrg1, qLrg2, qCX, qKw, qKwX, List.length_cons, List.length_nil, List.map_cons, List.map_nil, qAsgG, gTupQ, gConsQ, gSubT, gNilQ, qTGet, qDcT, kkT, qNewT, qNewK, List.length_map, Int.toNat_natCast, ditD_mut, qIx_tup, qIx_lst, keysT_2, Bool.or_true, Bool.true_or, Int.zero_add, isN_tup, isN_lst, isN_int, isN_dic, isN_non, at_zero, qMeth, qAddL, qMulL, rTupQ, qCBw, qLX, qLKw, qMet, pick_0, pick_10, qFz, qFzN, qDispF, qNewF, qDictF, qpCons, qpNil, qDispB, qDispT, keyPs, obD, qEqV, gSubQ, qNegI, qMets, at4_0, at4_1, at4_2, at4_3, ix4_1, ix4_2, ix4_3])
local macro_rules | `(tactic| walk_at "rs") => `(tactic| simp only [qVar_z, qVar_s, qC, qNext, qRet, qRetN, qIfS, qTest, qIs, qOp, qUn, qAnd, qOr, qNot, qAndV, qOrV, qNotV, qCB, qCons, qNil, okQ_some, okQ_none, qIf, qChain, qI, qIC, r1_rd, r2_rd, Qd.rLen, qLc, qIt, rAllQ, rAnyQ, rSumQ, rMinQ, rMaxQ, rAbsQ, rIntQ, newL_f, newL_t, Bool.false_eq_true, if_false, qInS, qEq, qNe, qIsN, qNotN, qDrop, if_true, qDcB, qFill, kkB, qDGet, kkK, qDcK, qFzD, qAsg, tset_nm, tset_tp, tsets_nil, tsets_nm, tsets_tp, wipe_nil, wipe_cons, List.set_cons_zero, List.set_cons_succ, qRaise, qFor, qRng1, qRng2, qTup, qLst, qPar, eqD_int, eqD_str, eqD_bl, itD_lst, itD_tup, itD_dic, lenD_lst, lenD_tup, lenD_dic, dicD_dic, lstD_lst, seqD_lst, seqD_tup, qSl, qoNone, qoSome, qRevL, qLrg1, qLrg2, qCX, qKw, qKwX, List.length_cons, List.length_nil, List.map_cons, List.map_nil, qAsgG, gTupQ, gConsQ, gSubT, gNilQ, qTGet, qDcT, kkT, qNewT, qNewK, List.length_map, Int.toNat_natCast, ditD_mut, qIx_tup, qIx_lst, keysT_2, Bool.or_true, Bool.true_or, Int.zero_add, isN_tup, isN_lst, isN_int, isN_dic, isN_non, at_zero, qMeth, qAddL, qMulL, rTupQ, qCBw, qLX, qLKw, qMet, pick_0, pick_10, qFz, qFzN, qDispF, qNewF, qDictF, qpCons, qpNil, qDispB, qDispT, keyPs, obD, qEqV, gSubQ, qNegI, qMets, at4_0, at4_1, at4_2, at4_3, ix4_1, ix4_2, ix4_3])
section
variable {P : Program} {w : World} {K : PySem.W.Frag} {mg : Str → Option Value} {base : Heap}
theorem fun_of {α β : Type} [DecidableEq α] [Inhabited β] : ∀ (ks : List α) (bs : List β), ks.Nodup → ks.length = bs.length → ∃ B : α → β, bs = ks.map B
  | [], [], _, _ => ⟨fun _ => default, rfl⟩
  | [], _ :: _, _, h => nomatch h
  | _ :: _, [], _, h => nomatch h
  | k :: ks, b :: bs, hn, h => by
    obtain ⟨hk, hn⟩ := List.nodup_cons.mp hn
    obtain ⟨B, e⟩ := fun_of ks bs hn (by simpa using h)
    refine ⟨fun x => if x = k then b else B x, ?_⟩
    rw [List.map_cons, if_pos rfl]
    congr 1
    rw [e]
    exact List.map_congr_left fun x hx => (if_neg (fun z : x = k => hk (by rw [← z]; exact hx))).symm
theorem zip_map_tab {v : Key → D} : ∀ ks : List Key, ks.zip (ks.map v) = tabK ks v
  | [] => rfl
  | k :: ks => by
    rw [List.map_cons, List.zip_cons_cons, zip_map_tab ks]
    rfl
theorem zip_short {α β : Type} : ∀ {xs : List α} {ys : List β}, xs.zip ys = xs.zip (ys.take xs.length)
  | [], _ => rfl
  | _ :: _, [] => by rw [List.take_nil]
  | x :: xs, y :: ys => by
    rw [List.length_cons, List.take_succ_cons, List.zip_cons_cons, List.zip_cons_cons, ← zip_short]
/-- a code of symbols, none of whose words begins another -/
structure PreB (ks : List Key) (B : Key → List Bool) : Prop where
  sy : SymsOk ks
  sz : ∀ x ∈ ks, 1 ≤ (B x).length ∧ (B x).length ≤ 8
  ap : ks.Pairwise fun x y => Apart (B x) (B y)
abbrev codB (ks : List Key) (B : Key → List Bool) : D := codD ks fun x => sw (B x)
@[irreducible] def pMany : Nat := wMany + 100
def r_prefix : RNQ := fun ds A P => ∃ (a b : Addr) (k m : Nat), ds = [.mut a, .int m] ∧ 0 < m ∧ m ≤ 9 ∧ Strm A a b k ∧ k + pMany ≤ maxDraws ∧ ∀ (ks : List Key) (B : Key → List Bool) A', PreB ks B → ks.length = m → Strm A' a b (k + pMany) → Off a b A A' → P (codB ks B) A'
theorem d__law_e_prefix (Z : Nv K mg) : Def P w K mg base 4 "_law_e_prefix" (defArgs s__law_e_prefix) ["stream", "many"] r_prefix := mkDef Z.f__law_e_prefix (fun f fd F => by
  have S := sc__law_e_prefix
  refine def_ok F S (by rintro ds A P ⟨a, b, k, m, rfl, _⟩; rfl) fun cdv A outer s H E tb hr => ?_
  have G__law_pick := d__law_pick (P := P) (w := w) (base := base) Z
  have HR__law_pick := hr.mono (show 2 ≤ 3 by decide)
  have G__law_e_words := d__law_e_words (P := P) (w := w) (base := base) Z
  have HR__law_e_words := hr
  have G__law_e_symbols := d__law_e_symbols (P := P) (w := w) (base := base) Z
  have HR__law_e_symbols := hr
  refine ⟨_, (psq_cons (psq_set (i := 2) S.nd (pq_fn G__law_e_words HR__law_e_words (paq_cons (qv 0) (paq_cons (pq_addI (qv 1) (pq_fn G__law_pick HR__law_pick (paq_cons (qv 0) (paq_cons (pq_lst false (paq_cons pq_int (paq_cons pq_int (paq_cons pq_int (paq_cons pq_int paq_nil))))) paq_nil)))) paq_nil)))) (psq_one (psq_ret (pq_fzD (pq_bt (cq_dict rfl) Z.b_dict (paq_cons (pq_listZip false rfl rfl Z.b_list rfl Z.b_zip (paq_cons (pq_fn G__law_e_symbols HR__law_e_symbols (paq_cons (qv 0) (paq_cons (qv 1) paq_nil))) (paq_cons (qv 2) paq_nil))) paq_nil)))))), ?_⟩
  rintro ds A P ⟨a, b, k, m, rfl, hm0, hm1, hs, hk, h⟩
  rw [show startQ ["stream", "many", "words"] [D.mut a, D.int m] = [some (D.mut a), some (D.int m), none] from rfl]
  unfold pMany at hk h
  refine qSeq_st fun N1 n1 => ?_
  walk_at "rs"
  refine ⟨by decide, a, b, k, _, [.int 0, .int 0, .int 1, .int 2], rfl, .inl rfl, by decide, by decide, hs, by omega, fun i x A1 hx hs1 ho1 => ?_⟩
  obtain ⟨j, rfl, hj⟩ : ∃ j : Nat, x = .int (j : Int) ∧ j ≤ 2 := by
    have := List.mem_of_getElem? hx
    simp only [List.mem_cons, List.not_mem_nil, or_false] at this
    rcases this with rfl | rfl | rfl | rfl
    · exact ⟨0, rfl, by decide⟩
    · exact ⟨0, rfl, by decide⟩
    · exact ⟨1, rfl, by decide⟩
    · exact ⟨2, rfl, by decide⟩
  walk_at "rs"
  refine ⟨a, b, k + 1, m + j, rfl, by omega, by omega, hs1, by omega, fun bs A2 hl hap hsz hs2 ho2 => ?_⟩
  refine n1 _ _ ?_
  walk_at "rd"
  refine ⟨a, b, _, m, rfl, hm0, by omega, hs2, by omega, fun ks A3 hks hkl hs3 ho3 => ?_⟩
  walk_at "rd"
  refine rDict_lst pairsD_zip ?_
  have hl2 : (bs.take m).length = ks.length := by rw [List.length_take, hl, hkl]; omega
  obtain ⟨B, eB⟩ := fun_of ks (bs.take m) hks.2.1 hl2.symm
  have ez : ks.zip (wD bs) = tabK ks fun x => .str (sw (B x)) := by
    rw [zip_short, hkl]
    rw [show (wD bs).take m = ks.map fun x => D.str (sw (B x)) by unfold wD; rw [← List.map_take, eB, List.map_map]; rfl]
    exact zip_map_tab ks
  rw [ez, mergeA_tabK hks.2.1]
  refine newD_fz ?_
  refine h ks B A3 ⟨hks, fun x hx => ?_, ?_⟩ hkl (hs3.up (by omega)) ((ho1.trans ho2).trans ho3)
  · exact hsz _ (List.mem_of_mem_take (eB ▸ List.mem_map_of_mem hx))
  · have hp : (bs.take m).Pairwise Apart := List.Pairwise.sublist (List.take_sublist _ _) hap
    rw [eB, List.pairwise_map] at hp
    exact hp) (fun _ _ _ _ _ _ us hl => match us, hl with | [_, _], _ => rfl)
end
end K66


set_option Elab.async false
set_option linter.all false
set_option maxRecDepth 100000
set_option maxHeartbeats 4000000
namespace K66
open PySem L2 Qd
local macro_rules | `(tactic| walk_at "rd") => `(tactic| simp only [qVar_z, qVar_s, qC, qSeq, qNext, qRet, qRetN, qIfS, qTest, qIs, qOp, qUn, qAnd, qOr, qNot, qAndV, qOrV, qNotV, qCB, qCons, qNil, okQ_some, okQ_none, qIf, qChain, qI, qIC, r1_rd, r2_rd, Qd.rLen, qLc, qIt, rAllQ, rAnyQ, rSumQ, rMinQ, rMaxQ, rAbsQ, rIntQ, newL_f, newL_t, Bool.false_eq_true, if_false, qInS, qEq, qNe, qIsN, qNotN, qDrop, if_true, qDcB, qFill, kkB, qDGet, kkK, qDcK, qFzD, qAsg, tset_nm, tset_tp, tsets_nil, tsets_nm, tsets_tp, wipe_nil, wipe_cons, List.set_cons_zero, List.set_cons_succ, qRaise, qFor, qRng1, qRng2, qTup, qLst, qPar, eqD_int, eqD_str, eqD_bl, itD_lst, itD_tup, itD_dic, lenD_lst, lenD_tup, lenD_dic, dicD_dic, lstD_lst, seqD_lst, seqD_tup, qSl, qoNone, qoSome, qRevL, qLrg1, qLrg2, qCX, qKw, qKwX, List.length_cons, List.length_nil, List.map_cons, List.map_nil, qAsgG, gTupQ, gConsQ, gSubT, gNilQ, qTGet, qDcT, kkT, qNewT, qNewK, List.length_map, Int.toNat_natCast, ditD_mut, qIx_tup, qIx_lst, keysT_2, Bool.or_true, Bool.true_or, Int.zero_add, isN_tup, isN_lst, isN_int, isN_dic, isN_non, at_zero, qMeth, qAddL, qMulL, rTupQ, qCBw, qLX, qLKw, qMet, pick_0, pick_10, qFz, qFzN, qDispF, qNewF, qDictF, qpCons, qpNil, qDispB, qDispT, keyPs, obD, qEqV, gSubQ, qNegI, qMets, at4_0, at4_1, at4_2, at4_3, ix4_1, ix4_2, ix4_3])
local macro_rules | `(tactic| walk_at "rs") => `(tactic| simp only [qVar_z, qVar_s, qC, qNext, qRet, qRetN, qIfS, qTest, qIs, qOp, qUn, qAnd, qOr, qNot, qAndV, qOrV, qNotV, qCB, qCons, qNil, okQ_some, okQ_none, qIf, qChain, qI, qIC, r1_rd, r2_rd, Qd.rLen, qLc, qIt, rAllQ, rAnyQ, rSumQ, rMinQ, rMaxQ, rAbsQ, rIntQ, newL_f, newL_t, Bool.false_eq_true, if_false, qInS, qEq, qNe, qIsN, qNotN, qDrop, if_true, qDcB, qFill, kkB, qDGet, kkK, qDcK, qFzD, qAsg, tset_nm, tset_tp, tsets_nil, tsets_nm, tsets_tp, wipe_nil, wipe_cons, List.set_cons_zero, List.set_cons_succ, qRaise, qFor, qRng1, qRng2, qTup, qLst, qPar, eqD_int, eqD_str, eqD_bl, itD_lst, itD_tup, itD_dic, lenD_lst, lenD_tup, lenD_dic, dicD_dic, lstD_lst, seqD_lst, seqD_tup, qSl, qoNone, qoSome, qRevL, qLrg1, qLrg2, qCX, qKw, qKwX, List.length_cons, List.length_nil, List.map_cons, List.map_nil, qAsgG, gTupQ, gConsQ, gSubT, gNilQ, qTGet, qDcT, kkT, qNewT, qNewK, List.length_map, Int.toNat_natCast, ditD_mut, qIx_tup, qIx_lst, keysT_2, Bool.or_true, Bool.true_or, Int.zero_add, isN_tup, isN_lst, isN_int, isN_dic, isN_non, at_zero, qMeth, qAddL, qMulL, rTupQ, qCBw, qLX, qLKw, qMet, pick_0, pick_10, qFz, qFzN, qDispF, qNewF, qDictF, qpCons, qpNil, qDispB, qDispT, keyPs, obD, qEqV, gSubQ, qNegI, qMets, at4_0, at4_1, at4_2, at4_3, ix4_1, ix4_2, ix4_3])
section
variable {P : Program} {w : World} {K : PySem.W.Frag} {mg : Str → Option Value} {base : Heap}
def r_pickF : RNQ := fun ds A P => ∃ (a b : Addr) (F y : Nat) (z : Int) (xs : List D), ds = [.mut a, .lst xs] ∧ 0 < xs.length ∧ xs.length ≤ 100000 ∧ StrX A a b F y z ∧ y < maxDraws ∧ ∀ (i : Nat) x A' F' z', xs[i]? = some x → StrX A' a b F' (y + 1) z' → Off a b A A' → F' ≤ F → ((2 ≤ xs.length → F' < F) ∨ (F = 0 ∧ F' = 0 ∧ z' = z ∧ (i : Int) = gdraw z (y + 1) % (xs.length : Int))) → P x A'
theorem d_pickF (Z : Nv K mg) : Def P w K mg base 2 "_law_pick" (defArgs s__law_pick) ["stream", "things"] r_pickF := mkDef Z.f__law_pick (fun f fd F => by
  have S := sc__law_pick
  refine def_ok F S (by rintro ds A P ⟨a, b, F, y, z, xs, rfl, _⟩; rfl) fun cdv A outer s H E tb hr => ?_
  have G__law_draw := d_drawF (P := P) (w := w) (base := base) Z
  have HR__law_draw := hr
  refine ⟨_, (psq_one (psq_ret (pq_ix (qv 1) (pq_fn G__law_draw HR__law_draw (paq_cons (qv 0) (paq_cons (pq_bi cq_len Z.b_len (paq_cons (qv 1) paq_nil)) paq_nil)))))), ?_⟩
  rintro ds A P ⟨a, b, F, y, z, xs, rfl, h0, hl, hs, hn, h⟩
  rw [show startQ ["stream", "things"] [D.mut a, D.lst xs] = [some (D.mut a), some (D.lst xs)] from rfl]
  walk_at "rd"
  refine ⟨a, b, F, y, z, _, rfl, by omega, by omega, hs, hn, fun v A' F' z' hz0 hz1 hs' ho h1 h2 => ?_⟩
  obtain ⟨i, rfl⟩ := Int.eq_ofNat_of_zero_le hz0
  have hi : i < xs.length := by omega
  rw [qIx_lst, at_nat, List.getElem?_eq_getElem hi, okQ_some]
  exact h i _ A' F' z' (List.getElem?_eq_getElem hi) hs' ho h1 (h2.imp (fun g e => g (by omega)) fun g => g)) (fun _ _ _ _ _ _ us hl => match us, hl with | [_, _], _ => rfl)
/-- a code of symbols, no word of it twice -/
structure AnyB (ks : List Key) (B : Key → List Bool) : Prop where
  sy : SymsOk ks
  sz : ∀ x ∈ ks, 1 ≤ (B x).length ∧ (B x).length ≤ 8
  ne : ks.Pairwise fun x y => B x ≠ B y
theorem PreB.any {ks : List Key} {B : Key → List Bool} (h : PreB ks B) : AnyB ks B := ⟨h.sy, h.sz, h.ap.imp fun {x y} h (e : B x = B y) => h.1 (by rw [e]; exact List.prefix_refl _)⟩
theorem PreB.rev {ks : List Key} {B : Key → List Bool} (h : PreB ks B) : AnyB ks fun x => (B x).reverse := ⟨h.sy, fun x hx => by rw [List.length_reverse]; exact h.sz x hx, h.any.ne.imp fun h e => h (List.reverse_inj.mp e)⟩
theorem rev_sw (b : List Bool) : revS (sw b) = sw b.reverse := by
  unfold revS
  rw [sw_cps, ← List.map_reverse]
  rfl
@[irreducible] def cMany : Nat := pMany + 50 * far + 500000000
/-- how far it is to the end of six beginnings of new words -/
def Dw (ws : List (List Bool)) (F : Nat) (z y : Int) (e : Nat) : Prop := e ≤ far + 5 ∧ (0 < F → e = far + 5) ∧ (F = 0 → e < far + 5 ∧ (ws.length ≤ 5 → ∀ t : Nat, t ≤ e → e ≤ t + 5 → gWord (fun j => gdraw z (y + 1 + (t + j))) ∉ ws))
theorem dw_any (ws : List (List Bool)) (F : Nat) (z y : Int) : ∃ e, Dw ws F z y e := by
  by_cases hF : 0 < F
  · exact ⟨far + 5, Nat.le_refl _, fun _ => rfl, fun e => by omega⟩
  by_cases hl : ws.length ≤ 5
  · obtain ⟨t0, h1, h2⟩ := win_hit hl z (y + 1)
    refine ⟨t0 + 5, by omega, fun e => absurd e hF, fun _ => ⟨by omega, fun _ t h3 h4 => ?_⟩⟩
    have := h2 (t - t0) (by omega)
    rw [show (fun j => gdraw z (y + 1 + (t + j))) = fun j => gdraw z (y + 1 + (t0 : Int) + (((t - t0 : Nat) : Int) + j)) from funext fun j => by congr 1; omega]
    exact this
  · exact ⟨0, by omega, fun e => absurd e hF, fun _ => ⟨by omega, fun e => absurd e hl⟩⟩
theorem c_eq : cMany = 63 * far + 570000200 := by unfold cMany pMany wMany; omega
theorem p_eq : pMany = 13 * far + 70000200 := by unfold pMany wMany; omega
theorem num1 {k : Nat} (h : k + cMany ≤ maxDraws) : k + 63 * far + 570000200 ≤ maxDraws := by
  have e := c_eq
  generalize cMany = c at e h
  generalize far = f at e ⊢
  omega
theorem num2 {k : Nat} (h : k + cMany ≤ maxDraws) : k + 2 + pMany ≤ maxDraws := by
  have e := c_eq
  have e2 := p_eq
  generalize cMany = c at e h
  generalize pMany = p at e2 ⊢
  generalize far = f at e e2
  omega
theorem num3 {k n : Nat} (h : n ≤ k + 63 * far + 570000200) : n ≤ k + cMany := by
  have e := c_eq
  generalize cMany = c at e ⊢
  generalize far = f at e h
  omega
theorem num4 {k : Nat} : k + 2 + pMany ≤ k + cMany := by
  have e := c_eq
  have e2 := p_eq
  generalize cMany = c at e ⊢
  generalize pMany = p at e2 ⊢
  generalize far = f at e e2
  omega
theorem gWord_get {g : Int → Int} {j : Nat} (h : j < (gWord g).length) : (gWord g)[j] = decide (g (1 + (j : Int)) % 2 = 1) := by
  have h3 : (gWord g)[j]? = some (decide (g (1 + (j : Int)) % 2 = 1)) := by
    unfold gWord at h ⊢
    rw [List.length_map, List.length_range] at h
    rw [List.getElem?_map, List.getElem?_range h]
    rfl
  rw [List.getElem?_eq_getElem h] at h3
  exact Option.some.inj h3
theorem flD_words (ws : List (List Bool)) : (wD ws).all flD = true := by
  unfold wD
  rw [List.all_map, List.all_eq_true]
  intro x _
  rfl
theorem inD_words {w : List Bool} {ws : List (List Bool)} : inD (.str (sw w)) (wD ws) = decide (w ∈ ws) := by
  rw [Bool.eq_iff_iff, decide_eq_true_eq]
  unfold inD inV wD
  rw [List.map_map, List.any_map, List.any_eq_true]
  constructor
  · rintro ⟨x, hx, e⟩
    have e : decide (sw x = sw w) = true := e
    exact sw_inj (of_decide_eq_true e) ▸ hx
  · intro h
    exact ⟨w, h, (decide_eq_true rfl : decide (sw w = sw w) = true)⟩
def r_code : RNQ := fun ds A P => ∃ (a b : Addr) (k m : Nat), ds = [.mut a, .int m] ∧ 0 < m ∧ m ≤ 6 ∧ Strm A a b k ∧ k + cMany ≤ maxDraws ∧ ∀ (ks : List Key) (B : Key → List Bool) A', AnyB ks B → ks.length ≤ m → Strm A' a b (k + cMany) → Off a b A A' → P (codB ks B) A'
theorem d__law_e_code (Z : Nv K mg) : Def P w K mg base 5 "_law_e_code" (defArgs s__law_e_code) ["stream", "most"] r_code := mkDef Z.f__law_e_code (fun f fd F => by
  have S := sc__law_e_code
  refine def_ok F S (by rintro ds A P ⟨a, b, k, m, rfl, _⟩; rfl) fun cdv A outer s H E tb hr => ?_
  have G__law_draw := d_drawF (P := P) (w := w) (base := base) Z
  have HR__law_draw := hr.mono (show 1 ≤ 4 by decide)
  have G__law_pick := d_pickF (P := P) (w := w) (base := base) Z
  have HR__law_pick := hr.mono (show 2 ≤ 4 by decide)
  have G__law_e_prefix := d__law_e_prefix (P := P) (w := w) (base := base) Z
  have HR__law_e_prefix := hr
  have G__law_e_symbols := d__law_e_symbols (P := P) (w := w) (base := base) Z
  have HR__law_e_symbols := hr.mono (show 3 ≤ 4 by decide)
  refine ⟨_, (psq_cons (psq_par (i := 2) (j := 3) rfl S.nd (by decide) (paq_cons (pq_addI pq_int (pq_fn G__law_draw HR__law_draw (paq_cons (qv 0) (paq_cons (qv 1) paq_nil)))) (paq_cons (pq_fn G__law_draw HR__law_draw (paq_cons (qv 0) (paq_cons pq_int paq_nil))) paq_nil))) (psq_cons (psq_if (ptq_eq hr.units (qv 3) pq_int) (psq_one (psq_ret (pq_fn G__law_e_prefix HR__law_e_prefix (paq_cons (qv 0) (paq_cons (qv 2) paq_nil))))) psq_nil) (psq_cons (psq_if (ptq_eq hr.units (qv 3) pq_int) (psq_cons (psq_set (i := 4) S.nd (pq_fn G__law_e_prefix HR__law_e_prefix (paq_cons (qv 0) (paq_cons (qv 2) paq_nil)))) (psq_one (psq_ret (pq_fzD (pq_bt (cq_dict rfl) Z.b_dict (paq_cons (pq_lc false rfl S.nd (piq_it (qv 4)) (blkOk_by (N := ["stream", "most", "many", "way", "code", "symbol", "words", "word", "k"]) (sc := defScope s__law_e_code) (own := [("symbol", 5)]) (by decide +kernel)) (fun _ _ _ _ _ => (gq_nm 5 S.nd)) (fun _ _ _ _ _ => qts_nil) (fun _ _ _ _ _ => (pq_tup (paq_cons (qv 5) (paq_cons (pq_revS (pq_dget (hu_of hr) (qv 4) (qv 5) (fun _ _ => rfl))) paq_nil))))) paq_nil)))))) psq_nil) (psq_cons (psq_set (i := 6) S.nd (pq_lst false paq_nil)) (psq_cons (psq_while PassesOwn.never (ptq_ltI (pq_bi cq_len Z.b_len (paq_cons (qv 6) paq_nil)) (qv 2)) (psq_cons (psq_set (i := 7) S.nd (pq_join pq_str (pq_lc false rfl S.nd (piq_rng1 Z.b_range (paq_cons (pq_addI pq_int (pq_fn G__law_draw HR__law_draw (paq_cons (qv 0) (paq_cons pq_int paq_nil)))) paq_nil)) (blkOk_by (N := ["stream", "most", "many", "way", "code", "symbol", "words", "word", "k"]) (sc := defScope s__law_e_code) (own := [("k", 8)]) (by decide +kernel)) (fun _ _ _ _ _ => (gq_nm 8 S.nd)) (fun _ _ _ _ _ => qts_nil) (fun _ _ _ _ _ => (pq_fn G__law_pick HR__law_pick (paq_cons (qv 0) (paq_cons (pq_lst false (paq_cons pq_str (paq_cons pq_str paq_nil))) paq_nil))))))) (psq_one (psq_set (i := 6) S.nd (pq_addL false (qv 6) (pq_if (ptq_notin (qv 7) (qv 6)) (pq_lst false (paq_cons (qv 7) paq_nil)) (pq_lst false paq_nil))))))) (psq_one (psq_ret (pq_fzD (pq_bt (cq_dict rfl) Z.b_dict (paq_cons (pq_listZip false rfl rfl Z.b_list rfl Z.b_zip (paq_cons (pq_fn G__law_e_symbols HR__law_e_symbols (paq_cons (qv 0) (paq_cons (qv 2) paq_nil))) (paq_cons (qv 6) paq_nil))) paq_nil)))))))))), ?_⟩
  rintro ds A P ⟨a, b, k, m, rfl, hm0, hm1, ⟨F0, y0, z0, hx0, hy0, hF0⟩, hk, h⟩
  rw [show startQ ["stream", "most", "many", "way", "code", "symbol", "words", "word", "k"] [D.mut a, D.int m] = [some (D.mut a), some (D.int m), none, none, none, none, none, none, none] from rfl]
  have hkk := num1 hk
  have hp : ∀ _ : Unit, k + 2 + pMany ≤ maxDraws := fun _ => num2 hk
  have up : ∀ {A' : MH} {n : Nat}, Strm A' a b n → n ≤ k + 63 * far + 570000200 → Strm A' a b (k + cMany) := fun hs hn => hs.up (num3 hn)
  have upP : ∀ {A' : MH}, Strm A' a b (k + 2 + pMany) → Strm A' a b (k + cMany) := fun hs => hs.up num4
  clear hk
  refine qSeq_st fun N1 n1 => ?_
  walk_at "rs"
  refine ⟨a, b, F0, y0, z0, m, rfl, by omega, by omega, hx0, by omega, fun v A1 F1 z1 hv0 hv1 hx1 ho1 hF1 hg => ?_⟩
  clear hg
  walk_at "rs"
  refine ⟨a, b, F1, y0 + 1, z1, 4, rfl, by omega, by omega, hx1, by omega, fun way A2 F2 z2 hw0 hw1 hx2 ho2 hF2 hg => ?_⟩
  clear hg
  obtain ⟨mn, emn, hmn0, hmn1⟩ : ∃ mn : Nat, 1 + v = (mn : Int) ∧ 0 < mn ∧ mn ≤ m := ⟨(1 + v).toNat, by omega, by omega, by omega⟩
  rw [emn]
  have hs2 : Strm A2 a b (k + 2) := ⟨F2, _, _, hx2, by omega, by omega⟩
  have ho2 := ho1.trans ho2
  refine n1 _ _ (qSeq_st fun N2 n2 => ?_)
  walk_at "rs"
  by_cases hway0 : way = 0
  · rw [if_pos (decide_eq_true hway0)]
    exact ⟨a, b, k + 2, mn, rfl, hmn0, by omega, hs2, hp (), fun ks B A3 hB hl hs3 ho3 => h ks B A3 hB.any (by omega) (upP hs3) (ho2.trans ho3)⟩
  rw [if_neg (by rw [decide_eq_true_eq]; exact hway0)]
  refine n2 _ _ (qSeq_st fun N3 n3 => ?_)
  walk_at "rd"
  by_cases hway1 : way = 1
  · rw [if_pos (decide_eq_true hway1)]
    refine ⟨a, b, k + 2, mn, rfl, hmn0, by omega, hs2, hp (), fun ks B A3 hB hl hs3 ho3 => ?_⟩
    walk_at "rd"
    have hkd : keysD (tabK ks fun k => D.str (sw (B k))) = ks.map kD := by
      unfold keysD tabK
      rw [List.map_map]
      rfl
    have hB2 := hB.rev
    rw [hkd]
    refine compL_of kD (fun x => .tup [kD x, .str (sw (B x).reverse)]) ks (by omega) (fun x hx Q hQ => ?_) ?_
    · walk_at "rd"
      unfold qRevS
      walk_at "rd"
      have hl8 := hB.sz x hx
      rw [keyD_k, okQ_some, getA_tabK (v := fun k => D.str (sw (B k))) hx, okQ_some]
      refine (show _ ∧ _ from ⟨by rw [sw_len]; omega, ?_⟩)
      rw [rev_sw]
      exact ⟨Nat.le_of_ble_eq_true rfl, hQ⟩
    · refine rDict_lst (pairsD_tab (v := fun x => .str (sw (B x).reverse)) ks) ?_
      rw [mergeA_tabK hB2.sy.2.1]
      refine newD_fz ?_
      exact h ks _ A3 hB2 (by omega) (upP hs3) (ho2.trans ho3)
  rw [if_neg (by rw [decide_eq_true_eq]; exact hway1)]
  refine n3 _ _ (qSeq_st fun N4 n4 => ?_)
  walk_at "rs"
  refine ⟨by decide, n4 _ _ (qSeq_st fun N5 n5 => ?_)⟩
  obtain ⟨e0, he0⟩ := dw_any [] F2 z2 ((y0 + 1 + 1 : Nat) : Int)
  clear hs2
  refine ⟨fun μ s' A' => ∃ (ws : List (List Bool)) (x7 x8 : Option D) (F y : Nat) (z : Int) (e : Nat), s' = [some (.mut a), some (.int m), some (.int mn), some (.int way), none, none, some (.lst (wD ws)), x7, x8] ∧ ws.Nodup ∧ (∀ w ∈ ws, 1 ≤ w.length ∧ w.length ≤ 5) ∧ ws.length ≤ mn ∧ StrX A' a b F y z ∧ Off a b A A' ∧ F ≤ 70000000 ∧ Dw ws F z y e ∧ μ = (6 - ws.length) * (far + 6) + F + e ∧ y + 6 * μ ≤ k + 2 + 6 * (7 * far + 70000100), ⟨_, [], _, _, F2, y0 + 1 + 1, z2, e0, rfl, .nil, (fun _ h => nomatch h), Nat.zero_le _, hx2, ho2, by omega, he0, rfl, ?_⟩, ?_⟩
  · have := he0.1
    show y0 + 1 + 1 + 6 * (6 * (far + 6) + F2 + e0) ≤ _
    omega
  clear he0 e0 hx2 hx1 hx0 hF2 hF1 hF0 hy0
  rintro μ s' A' ⟨ws, x7, x8, F, y, z, e, rfl, hnd, hsz, hlm, hx, ho, hF, he, rfl, hb⟩
  walk_at "rd"
  rw [wD_len]
  by_cases hc : ws.length < mn
  case neg =>
    rw [if_neg (by rw [decide_eq_true_eq]; omega)]
    refine n5 _ _ ?_
    walk_at "rd"
    unfold qListZip
    walk_at "rd"
    have hlw : ws.length = mn := by omega
    have hyk : y + 40 ≤ k + 42 * far + 500000000 := by clear up upP hp h; omega
    refine ⟨a, b, k + 42 * far + 500000000, mn, rfl, hmn0, by omega, ⟨F, y, z, hx, by omega, hF⟩, by omega, fun ks A3 hks hkl hs3 ho3 => ?_⟩
    walk_at "rd"
    refine rDict_lst pairsD_zip ?_
    obtain ⟨B, eB⟩ := fun_of ks ws hks.2.1 (by omega)
    have ez : ks.zip (wD ws) = tabK ks fun x => .str (sw (B x)) := by
      rw [show wD ws = ks.map fun x => D.str (sw (B x)) by unfold wD; rw [eB, List.map_map]; rfl]
      exact zip_map_tab ks
    rw [ez, mergeA_tabK hks.2.1]
    refine newD_fz ?_
    refine h ks B A3 ⟨hks, fun x hx => ?_, ?_⟩ (by omega) (up hs3 (by omega)) (ho.trans ho3)
    · have := hsz (B x) (eB ▸ List.mem_map_of_mem hx)
      omega
    · have hp : ws.Pairwise (· ≠ ·) := hnd
      rw [eB, List.pairwise_map] at hp
      exact hp
  rw [if_pos (by rw [decide_eq_true_eq]; omega)]
  refine ⟨a, b, F, y, z, 5, rfl, by decide, by decide, hx, by have := hkk; omega, fun v A2 F2 z2 hv0 hv1 hx2 ho2 hF2 hg => ?_⟩
  obtain ⟨vn, rfl⟩ := Int.eq_ofNat_of_zero_le hv0
  have hvn : vn < 5 := by omega
  walk_at "rd"
  refine (show _ ∧ _ from ⟨⟨by omega, by omega⟩, ?_⟩)
  show compL _ _ _ _ (rngD 0 (1 + (vn : Int)).toNat) [] A2 _
  rw [show (1 + (vn : Int)).toNat = vn + 1 by omega]
  refine compL_st (fun i A' => ∃ (F3 : Nat) (z3 : Int), StrX A' a b F3 (y + 1 + i) z3 ∧ Off a b A2 A' ∧ F3 ≤ F2 ∧ (F2 = 0 → F3 = 0 ∧ z3 = z2)) (fun i _ yv => ∃ c : Bool, yv = .str (sw [c]) ∧ (F2 = 0 → c = decide (gdraw z2 ((y : Int) + 1 + (1 + (i : Int))) % 2 = 1))) (by rw [rngD_len]; omega) ⟨F2, z2, hx2, Off.refl A2, Nat.le_refl _, fun h => ⟨h, rfl⟩⟩ ?_ ?_
  · rintro i x A' hx ⟨F3, z3, hx3, ho3, hF3, hz3⟩ Q hQ
    have hi := (rngD_get hx).1
    walk_at "rd"
    have hyk : y + 1 + i < maxDraws := by clear up upP hp h hg; omega
    refine ⟨by decide, a, b, F3, y + 1 + i, z3, _, rfl, by decide, by decide, hx3, hyk, fun j x A4 F4 z4 hxj hx4 ho4 hF4 hg2 => hQ _ A4 ?_ ⟨F4, z4, hx4, ho3.trans ho4, Nat.le_trans hF4 hF3, fun h0 => ?_⟩⟩
    · have hj : j < 2 := (List.getElem?_eq_some_iff.mp hxj).1
      refine ⟨decide (j = 1), ?_, fun h0 => ?_⟩
      · have : j = 0 ∨ j = 1 := by omega
        rcases this with rfl | rfl
        · cases hxj; rfl
        · cases hxj; rfl
      · obtain ⟨e3, rfl⟩ := hz3 h0
        rcases hg2 with g | ⟨_, _, _, g⟩
        · have := g (by decide)
          omega
        · rw [show (y : Int) + 1 + (1 + (i : Int)) = ((y + 1 + i : Nat) : Int) + 1 by omega]
          rw [show (([D.str (Str.ofString "0"), D.str (Str.ofString "1")] : List D).length : Int) = 2 from rfl] at g
          rw [← g]
          have : j = 0 ∨ j = 1 := by omega
          rcases this with rfl | rfl <;> rfl
    · obtain ⟨e3, rfl⟩ := hz3 h0
      rcases hg2 with g | ⟨_, e4, e5, _⟩
      · have := g (by decide)
        omega
      · exact ⟨e4, e5⟩
  · rintro out A3 hl hR ⟨F3, z3, hx3, ho3, hF3, hz3⟩
    rw [rngD_len] at hl hx3
    obtain ⟨w, hwl, hw⟩ := choose_list out (fun i c yv => yv = D.str (sw [c]) ∧ (F2 = 0 → c = decide (gdraw z2 ((y : Int) + 1 + (1 + (i : Int))) % 2 = 1))) fun i yv e => hR i _ yv (rngD_at (by have := (List.getElem?_eq_some_iff.mp e).1; omega)) e
    have eout : out = (w.map fun c => sw [c]).map .str := by
      apply List.ext_getElem (by rw [List.length_map, List.length_map, hwl])
      intro i h1 h2
      rw [List.getElem_map, List.getElem_map]
      exact (hw i w[i] out[i] (List.getElem?_eq_getElem _) (List.getElem?_eq_getElem _)).1
    rw [eout, show (some ((w.map fun c => sw [c]).map D.str)).bind strsD = some (w.map fun c => sw [c]) from strsD_map _, okQ_some]
    rw [show Txt.join (Str.ofString "") (w.map fun c => sw [c]) = sw w by
      have := join_sw (w.map fun c => [c])
      rw [List.map_map] at this
      rw [show (w.map fun c => sw [c]) = w.map (sw ∘ fun c => [c]) from rfl]
      refine this.trans ?_
      rw [flat_one]]
    refine (show _ ∧ _ from ⟨?_, ?_⟩)
    · rw [List.map_map, show (Str.ofString "").length = 0 from rfl, show (w.map ((fun x => x.length) ∘ fun c => sw [c])) = w.map fun _ => 1 from rfl, List.map_const', List.sum_replicate_nat]
      omega
    refine (show _ ∧ _ ∧ _ from ⟨rfl, flD_words ws, ?_⟩)
    rw [inD_words]
    obtain ⟨wl0, wl1⟩ : 1 ≤ w.length ∧ w.length ≤ 5 := by omega
    have hy3 : StrX A3 a b F3 (y + (w.length + 1)) z3 := by
      rw [show y + (w.length + 1) = y + 1 + (vn + 1) by omega]
      exact hx3
    have hF30 : F2 = 0 → F3 = 0 ∧ z3 = z2 := hz3
    have ho4 := (ho.trans ho2).trans ho3
    clear hx3 hx2 hx ho2 ho3 ho hR
    have hFF : F ≠ 0 → F3 < F := fun h0 => by
      rcases hg with g | ⟨g, _⟩
      · have := g (by decide)
        omega
      · exact absurd g h0
    have hF0 : F = 0 → F3 = 0 ∧ z3 = z ∧ w = gWord fun j => gdraw z ((y : Int) + 1 + j) := fun h0 => by
      rcases hg with g | ⟨_, g2, rfl, g3⟩
      · have := g (by decide)
        omega
      · obtain ⟨g4, g5⟩ := hF30 g2
        refine ⟨g4, g5, ?_⟩
        apply List.ext_getElem
        · unfold gWord
          rw [List.length_map, List.length_range, hwl, hl]
          show vn + 1 = (1 + gdraw z2 ((y : Int) + 1 + 0) % 5).toNat
          rw [show (y : Int) + 1 + 0 = (y : Int) + 1 by omega, ← g3]
          omega
        · intro i h1 h2
          have := (hw i w[i] out[i] (List.getElem?_eq_getElem _) (List.getElem?_eq_getElem _)).2 g2
          rw [this]
          exact (gWord_get h2).symm
    clear hg hw hz3 hF30
    have hyb : y + (w.length + 1) ≤ y + 6 := by omega
    by_cases hin : w ∈ ws
    · rw [show (if true = true then !decide (w ∈ ws) else decide (w ∈ ws)) = false by rw [if_pos rfl, decide_eq_true hin]; rfl]
      have hnx : ∃ e2, Dw ws F3 z3 ((y + (w.length + 1) : Nat) : Int) e2 ∧ F3 + e2 < F + e := by
        by_cases h0 : F = 0
        · obtain ⟨g1, rfl, g3⟩ := hF0 h0
          obtain ⟨g4, g5⟩ := he.2.2 h0
          have g6 := g5 (by omega)
          have h5 : 5 < e := by
            by_cases h5 : 5 < e
            · exact h5
            · exfalso
              have := g6 0 (Nat.zero_le _) (by omega)
              rw [show (fun j => gdraw z3 ((y : Int) + 1 + (((0 : Nat) : Int) + j))) = fun j => gdraw z3 ((y : Int) + 1 + j) from funext fun j => by congr 1; omega, ← g3] at this
              exact this hin
          refine ⟨e - (w.length + 1), ⟨by omega, fun q => by omega, fun _ => ⟨by omega, fun _ t h1 h2 => ?_⟩⟩, by omega⟩
          have := g6 (t + (w.length + 1)) (by omega) (by omega)
          rw [show (fun j => gdraw z3 (((y + (w.length + 1) : Nat) : Int) + 1 + ((t : Int) + j))) = fun j => gdraw z3 ((y : Int) + 1 + (((t + (w.length + 1) : Nat) : Int) + j)) from funext fun j => by congr 1; omega]
          exact this
        · obtain ⟨e2, he2⟩ := dw_any ws F3 z3 ((y + (w.length + 1) : Nat) : Int)
          refine ⟨e2, he2, ?_⟩
          have := hFF h0
          have := he2.1
          have := he.2.1 (by omega)
          omega
      obtain ⟨e2, he2, hlt⟩ := hnx
      refine ⟨by decide, by omega, (6 - ws.length) * (far + 6) + F3 + e2, by omega, ws, some (.str (sw w)), x8, F3, y + (w.length + 1), z3, e2, ?_, hnd, hsz, hlm, hy3, ho4, by omega, he2, rfl, by omega⟩
      rw [List.append_nil]
    · rw [show (if true = true then !decide (w ∈ ws) else decide (w ∈ ws)) = true by rw [if_pos rfl, decide_eq_false hin]; rfl]
      obtain ⟨e2, he2⟩ := dw_any (ws ++ [w]) F3 z3 ((y + (w.length + 1) : Nat) : Int)
      have hl2 : (ws ++ [w]).length = ws.length + 1 := by rw [List.length_append]; rfl
      have hmul : (6 - ws.length) * (far + 6) = (6 - (ws.length + 1)) * (far + 6) + (far + 6) := by
        rw [show 6 - ws.length = (6 - (ws.length + 1)) + 1 by omega, Nat.add_mul, Nat.one_mul]
      have h21 := he2.1
      refine ⟨by decide, by omega, (6 - (ws.length + 1)) * (far + 6) + F3 + e2, by omega, ws ++ [w], some (.str (sw w)), x8, F3, y + (w.length + 1), z3, e2, ?_, ?_, fun x hx => ?_, by omega, hy3, ho4, by omega, he2, by rw [hl2], by omega⟩
      · unfold wD
        rw [List.map_append]
        rfl
      · rw [List.nodup_append]
        exact ⟨hnd, by simp, fun x h1 y h2 => by rw [List.mem_singleton.mp h2]; exact fun z => hin (z ▸ h1)⟩
      · rcases List.mem_append.mp hx with hx | hx
        · exact hsz x hx
        · rw [List.mem_singleton.mp hx]; exact ⟨wl0, wl1⟩) (fun _ _ _ _ _ _ us hl => match us, hl with | [_, _], _ => rfl)
end
end K66


set_option Elab.async false
set_option linter.all false
set_option maxRecDepth 100000
set_option maxHeartbeats 4000000
namespace K66
open PySem L2 Qd
local macro_rules | `(tactic| walk_at "rd") => `(tactic| simp only [qVar_z, qVar_s, qC, qSeq, qNext, qRet, qRetN, qIfS, qTest, qIs, qOp, qUn, qAnd, qOr, qNot, qAndV, qOrV, qNotV, qCB, qCons, qNil, okQ_some, okQ_none, qIf, qChain, qI, qIC, r1_rd, r2_rd, Qd.rLen, qLc, qIt, rAllQ, rAnyQ, rSumQ, rMinQ, rMaxQ, rAbsQ, rIntQ, newL_f, newL_t, Bool.false_eq_true, if_false, qInS, qEq, qNe, qIsN, qNotN, qDrop, if_true, qDcB, qFill, kkB, qDGet, kkK, qDcK, qFzD, qAsg, tset_nm, tset_tp, tsets_nil, tsets_nm, tsets_tp, wipe_nil, wipe_cons, List.set_cons_zero, List.set_cons_succ, qRaise, qFor, qRng1, qRng2, qTup, qLst, qPar, eqD_int, eqD_str, eqD_bl, itD_lst, itD_tup, itD_dic, lenD_lst, lenD_tup, lenD_dic, dicD_dic, lstD_lst, seqD_lst, seqD_tup, qSl, qoNone, qoSome, qRevL, qLrg1, qLrg2, qCX, qKw, qKwX, List.length_cons, List.length_nil, List.map_cons, List.map_nil, qAsgG, gTupQ, gConsQ, gSubT, gNilQ, qTGet, qDcT, kkT, qNewT, qNewK, List.length_map, Int.toNat_natCast, ditD_mut, qIx_tup, qIx_lst, keysT_2, Bool.or_true, Bool.true_or, Int.zero_add, isN_tup, isN_lst, isN_int, isN_dic, isN_non, at_zero, qMeth, qAddL, qMulL, rTupQ, qCBw, qLX, qLKw, qMet, pick_0, pick_10, qFz, qFzN, qDispF, qNewF, qDictF, qpCons, qpNil, qDispB, qDispT, keyPs, obD, qEqV, gSubQ, qNegI, qMets, at4_0, at4_1, at4_2, at4_3, ix4_1, ix4_2, ix4_3])
local macro_rules | `(tactic| walk_at "rs") => `(tactic| simp only [qVar_z, qVar_s, qC, qNext, qRet, qRetN, qIfS, qTest, qIs, qOp, qUn, qAnd, qOr, qNot, qAndV, qOrV, qNotV, qCB, qCons, qNil, okQ_some, okQ_none, qIf, qChain, qI, qIC, r1_rd, r2_rd, Qd.rLen, qLc, qIt, rAllQ, rAnyQ, rSumQ, rMinQ, rMaxQ, rAbsQ, rIntQ, newL_f, newL_t, Bool.false_eq_true, if_false, qInS, qEq, qNe, qIsN, qNotN, qDrop, if_true, qDcB, qFill, kkB, qDGet, kkK, qDcK, qFzD, qAsg, tset_nm, tset_tp, tsets_nil, tsets_nm, tsets_tp, wipe_nil, wipe_cons, List.set_cons_zero, List.set_cons_succ, qRaise, qFor, qRng1, qRng2, qTup, qLst, qPar, eqD_int, eqD_str, eqD_bl, itD_lst, itD_tup, itD_dic, lenD_lst, lenD_tup, lenD_dic, dicD_dic, lstD_lst, seqD_lst, seqD_tup, qSl, qoNone, qoSome, qRevL, qLrg1, qLrg2, qCX, qKw, qKwX, List.length_cons, List.length_nil, List.map_cons, List.map_nil, qAsgG, gTupQ, gConsQ, gSubT, gNilQ, qTGet, qDcT, kkT, qNewT, qNewK, List.length_map, Int.toNat_natCast, ditD_mut, qIx_tup, qIx_lst, keysT_2, Bool.or_true, Bool.true_or, Int.zero_add, isN_tup, isN_lst, isN_int, isN_dic, isN_non, at_zero, qMeth, qAddL, qMulL, rTupQ, qCBw, qLX, qLKw, qMet, pick_0, pick_10, qFz, qFzN, qDispF, qNewF, qDictF, qpCons, qpNil, qDispB, qDispT, keyPs, obD, qEqV, gSubQ, qNegI, qMets, at4_0, at4_1, at4_2, at4_3, ix4_1, ix4_2, ix4_3])
section
variable {P : Program} {w : World} {K : PySem.W.Frag} {mg : Str → Option Value} {base : Heap}
def isPre (ks : List Key) (W : Key → Str) : Bool := !(ks.any fun a => ks.any fun b => !decide (W a = W b) && preS (W a) (W b))
def r_isPre : RNQ := fun ds A P => ∃ (ks : List Key) (W : Key → Str), ds = [codD ks W] ∧ ks.length < 64 ∧ (∀ k ∈ ks, (W k).length ≤ 100000) ∧ P (.bl (isPre ks W)) A
theorem d__law_e_is_prefix (Z : Nv K mg) : Def P w K mg base 1 "_law_e_is_prefix" (defArgs s__law_e_is_prefix) ["code"] r_isPre := mkDef Z.f__law_e_is_prefix (fun f fd F => by
  have S := sc__law_e_is_prefix
  refine def_ok F S (by rintro ds A P ⟨_, _, rfl, _⟩; rfl) fun cdv A outer s H E tb hr => ?_
  refine ⟨_, (psq_cons (psq_asg (pq_lc false rfl S.nd (piq_it (qv 0)) (blkOk_by (N := ["code", "words", "one", "other"]) (sc := defScope s__law_e_is_prefix) (own := [("one", 2)]) (by decide +kernel)) (fun _ _ _ _ _ => (gq_nm 2 S.nd)) (fun _ _ _ _ _ => qts_nil) (fun _ _ _ _ _ => (pq_dget (hu_of hr) (qv 0) (qv 2) (fun _ _ => rfl)))) (gq_nm 1 S.nd)) (psq_one (psq_ret (pq_not (pq_bi (cq_any rfl) Z.b_any (paq_cons (pq_lc false rfl S.nd (piq_it (qv 1)) (blkOk_by (N := ["code", "words", "one", "other"]) (sc := defScope s__law_e_is_prefix) (own := [("one", 2)]) (by decide +kernel)) (fun _ _ _ _ _ => (gq_nm 2 S.nd)) (fun _ _ _ _ _ => qts_nil) (fun _ _ _ _ _ => (pq_bi (cq_any rfl) Z.b_any (paq_cons (pq_lc false rfl S.nd (piq_it (qv 1)) (blkOk_by (N := ["code", "words", "one", "other"]) (own := [("other", 3)]) (blkC_relabel (by decide +kernel))) (fun _ _ _ _ _ => (gq_nm 3 S.nd)) (fun _ _ _ _ _ => qts_nil) (fun _ _ _ _ _ => (pq_and (pq_ne hr.units (qv 2) (qv 3)) (pq_one (pq_eq hr.units (pq_slice false (qv 3) poq_none (poq_some (pq_bi cq_len Z.b_len (paq_cons (qv 2) paq_nil)))) (qv 2)))))) paq_nil)))) paq_nil)))))), ?_⟩
  rintro ds A P ⟨ks, W, rfl, hl, hw, h⟩
  rw [show startQ ["code", "words", "one", "other"] [codD ks W] = [some (codD ks W), none, none, none] from rfl]
  refine qSeq_st fun N1 n1 => ?_
  walk_at "rs"
  have hkd : keysD (tabK ks fun k => D.str (W k)) = ks.map kD := by
    unfold keysD tabK
    rw [List.map_map]
    rfl
  rw [hkd]
  refine compL_of kD (fun k => .str (W k)) ks (by omega) (fun k hk Q hQ => ?_) ?_
  · walk_at "rd"
    rw [keyD_k, okQ_some, getA_tabK (v := fun k => D.str (W k)) hk, okQ_some]
    exact hQ
  refine n1 _ _ ?_
  walk_at "rd"
  refine compL_of (fun k => .str (W k)) (fun k => .bl (ks.any fun b => !decide (W k = W b) && preS (W k) (W b))) ks (by omega) (fun k hk Q hQ => ?_) ?_
  · walk_at "rd"
    refine compL_of (fun k => .str (W k)) (fun b => .bl (!decide (W k = W b) && preS (W k) (W b))) ks (by omega) (fun b hb Q2 hQ2 => ?_) ?_
    · walk_at "rd"
      cases hd : decide (W k = W b) with
      | true => rw [hd] at hQ2; exact hQ2
      | false =>
        rw [hd] at hQ2
        show okQ (lenD A (D.str (W k))) _
        rw [lenD_str (hw k hk), okQ_some]
        exact ⟨hw b hb, hQ2⟩
    · rw [show (some (ks.map fun b => D.bl (!decide (W k = W b) && preS (W k) (W b)))).bind blsD = some (ks.map fun b => !decide (W k = W b) && preS (W k) (W b)) by
        rw [Option.bind_some, show (ks.map fun b => D.bl (!decide (W k = W b) && preS (W k) (W b))) = (ks.map fun b => !decide (W k = W b) && preS (W k) (W b)).map .bl by rw [List.map_map]; rfl]
        exact blsD_map _, okQ_some, List.any_map]
      exact hQ
  · rw [show (some (ks.map fun k => D.bl (ks.any fun b => !decide (W k = W b) && preS (W k) (W b)))).bind blsD = some (ks.map fun k => ks.any fun b => !decide (W k = W b) && preS (W k) (W b)) by
      rw [Option.bind_some, show (ks.map fun k => D.bl (ks.any fun b => !decide (W k = W b) && preS (W k) (W b))) = (ks.map fun k => ks.any fun b => !decide (W k = W b) && preS (W k) (W b)).map .bl by rw [List.map_map]; rfl]
      exact blsD_map _, okQ_some, List.any_map]
    exact h) (fun _ _ _ _ _ _ us hl => match us, hl with | [_], _ => rfl)
def oddC : List D := [.non, .int 5, .str "x", .lst [], .tup [], .dic [], .dic [(.inr "a", .str "")], .dic [(.inr "a", .str "0"), (.inr "b", .str "0")], .dic [(.inr "a", .str "2")], .dic [(.inr "a", .int 0)], .dic [(.inr "a", .non)], .dic [(.inr "A", .str "0")], .dic [(.inr "a1", .str "0")], .dic [(.inr "", .str "0")], .dic [(.inr "abcdefghi", .str "0")], .dic [(.inl 256, .str "0")], .dic [(.inl (-1), .str "0")], .gdc [(.bl true, .str "0")], .dic [(.inr "a", .str "0"), (.inl 1, .str "1")], .gdc [(.non, .str "0")], .gdc [(.tup [.str "a"], .str "0")], .dic [(.inr "a", .lst [.str "0"])], .dic [(.inr "a", .str "0 ")], .dic [(.inr "a b", .str "0")]]
def r_oddC : RNQ := fun ds A P => ds = [] ∧ P (.lst oddC) A
theorem d__law_e_odd_codes (Z : Nv K mg) : Def P w K mg base 1 "_law_e_odd_codes" (defArgs s__law_e_odd_codes) [] r_oddC := mkDef Z.f__law_e_odd_codes (fun f fd F => by
  have S := sc__law_e_odd_codes
  refine def_okS F S (by rintro ds A P ⟨rfl, _⟩; rfl) fun cdv A outer s H E tb hr => ⟨_, (psq_cons (psq_set (i := 0) S.nd (pq_lst false (paq_cons pq_non (paq_cons pq_int (paq_cons pq_str (paq_cons (pq_lst false paq_nil) (paq_cons (pq_tup paq_nil) (paq_cons pq_newF (paq_cons (pq_dispF (ppq_cons pq_str pq_str ppq_nil)) (paq_cons (pq_dispF (ppq_cons pq_str pq_str (ppq_cons pq_str pq_str ppq_nil))) (paq_cons (pq_dispF (ppq_cons pq_str pq_str ppq_nil)) (paq_cons (pq_dispF (ppq_cons pq_str pq_int ppq_nil)) (paq_cons (pq_dispF (ppq_cons pq_str pq_non ppq_nil)) (paq_cons (pq_dispF (ppq_cons pq_str pq_str ppq_nil)) (paq_cons (pq_dispF (ppq_cons pq_str pq_str ppq_nil)) (paq_cons (pq_dispF (ppq_cons pq_str pq_str ppq_nil)) (paq_cons (pq_dispF (ppq_cons pq_str pq_str ppq_nil)) paq_nil))))))))))))))))) (psq_one (psq_ret (pq_addL false (qv 0) (pq_lst false (paq_cons (pq_dispF (ppq_cons pq_int pq_str ppq_nil)) (paq_cons (pq_dispF (ppq_cons (pq_neg pq_int) pq_str ppq_nil)) (paq_cons (pq_dispB pq_bl pq_str) (paq_cons (pq_dispF (ppq_cons pq_str pq_str (ppq_cons pq_int pq_str ppq_nil))) (paq_cons (pq_dispB pq_non pq_str) (paq_cons (pq_dispT (hu_of hr) (paq_cons pq_str paq_nil) pq_str) (paq_cons (pq_dispF (ppq_cons pq_str (pq_lst false (paq_cons pq_str paq_nil)) ppq_nil)) (paq_cons (pq_dispF (ppq_cons pq_str pq_str ppq_nil)) (paq_cons (pq_dispF (ppq_cons pq_str pq_str ppq_nil)) paq_nil)))))))))))))), ?_⟩
  rintro ds A P ⟨rfl, h⟩
  rw [show startQ ["odds"] [] = [none] from rfl]
  refine qSeq_st fun N1 n1 => ?_
  walk_at "rs"
  simp only [keyD, keysT, okQ_some]
  refine ⟨by decide, by decide, ?_⟩
  repeat' first | (with_reducible refine And.intro (by decide) ?_) | (intro q hq; clear hq; clear q)
  refine n1 _ _ ?_
  walk_at "rs"
  simp only [keyD, keysT, okQ_some]
  repeat' first | (with_reducible refine And.intro (by decide) ?_) | (intro q hq; clear hq; clear q)
  exact ⟨A, Shr.refl _, h⟩) (fun _ _ _ _ _ _ us hl => match us, hl with | [], _ => rfl)
theorem ab_kept (A : MH) : f_keptC A (.dic [(.inr "a", .str "0"), (.inr "b", .str "0")]) = some .non := by
  have hs : sortKeys [((.inr "a" : Key), D.str "0"), ((.inr "b" : Key), D.str "0")] = some [.inr "a", .inr "b"] := by
    rw [show [((.inr "a" : Key), D.str "0"), ((.inr "b" : Key), D.str "0")] = tabK ((["a", "b"] : List Str).map .inr) fun _ => .str "0" from rfl, sort_strs (by simp), srtS_id (l := (["a", "b"] : List Str)) (by decide +kernel)]
    rfl
  have hk : keptK [((.inr "a" : Key), D.str "0"), ((.inr "b" : Key), D.str "0")] = some [(.inr "a", .str "0"), (.inr "b", .str "0")] := by
    unfold keptK
    rw [hs]
    rfl
  show ((keptK [((.inr "a" : Key), D.str "0"), ((.inr "b" : Key), D.str "0")]).bind fun kvs => (distC (mergeA [] kvs)).map fun c => if c = true then D.dic (mergeA [] kvs) else .non) = some .non
  rw [hk]
  rfl
theorem oddC_kept (A : MH) : ∀ o ∈ oddC, f_keptC A o = some .non := by
  intro o ho
  simp only [oddC, List.mem_cons, List.not_mem_nil, or_false] at ho
  rcases ho with rfl | rfl | rfl | rfl | rfl | rfl | rfl | rfl | rfl | rfl | rfl | rfl | rfl | rfl | rfl | rfl | rfl | rfl | rfl | rfl | rfl | rfl | rfl | rfl <;> first | rfl | exact ab_kept A
theorem oddC_pl : ∀ o ∈ oddC, plD o = true ∧ dep o ≤ 4 := by
  intro o ho
  simp only [oddC, List.mem_cons, List.not_mem_nil, or_false] at ho
  rcases ho with rfl | rfl | rfl | rfl | rfl | rfl | rfl | rfl | rfl | rfl | rfl | rfl | rfl | rfl | rfl | rfl | rfl | rfl | rfl | rfl | rfl | rfl | rfl | rfl <;> exact ⟨rfl, by decide⟩
end
end K66


set_option Elab.async false
set_option linter.all false
set_option maxRecDepth 100000
set_option maxHeartbeats 4000000
namespace K66
open PySem L2 Qd
local macro_rules | `(tactic| walk_at "rd") => `(tactic| simp only [qVar_z, qVar_s, qC, qSeq, qNext, qRet, qRetN, qIfS, qTest, qIs, qOp, qUn, qAnd, qOr, qNot, qAndV, qOrV, qNotV, qCB, qCons, qNil, okQ_some, okQ_none, qIf, qChain, qI, qIC, r1_rd, r2_rd, Qd.rLen, qLc, qIt, rAllQ, rAnyQ, rSumQ, rMinQ, rMaxQ, rAbsQ, rIntQ, newL_f, newL_t, Bool.false_eq_true, if_false, qInS, qEq, qNe, qIsN, qNotN, qDrop, if_true, qDcB, qFill, kkB, qDGet, kkK, qDcK, qFzD, qAsg, tset_nm, tset_tp, tsets_nil, tsets_nm, tsets_tp, wipe_nil, wipe_cons, List.set_cons_zero, List.set_cons_succ, qRaise, qFor, qRng1, qRng2, qTup, qLst, qPar, eqD_int, eqD_str, eqD_bl, itD_lst, itD_tup, itD_dic, lenD_lst, lenD_tup, lenD_dic, dicD_dic, lstD_lst, seqD_lst, seqD_tup, qSl, qoNone, qoSome, qRevL, qLrg1, qLrg2, qCX, qKw, qKwX, List.length_cons, List.length_nil, List.map_cons, List.map_nil, qAsgG, gTupQ, gConsQ, gSubT, gNilQ, qTGet, qDcT, kkT, qNewT, qNewK, List.length_map, Int.toNat_natCast, ditD_mut, qIx_tup, qIx_lst, keysT_2, Bool.or_true, Bool.true_or, Int.zero_add, isN_tup, isN_lst, isN_int, isN_dic, isN_non, at_zero, qMeth, qAddL, qMulL, rTupQ, qCBw, qLX, qLKw, qMet, pick_0, pick_10, qFz, qFzN, qDispF, qNewF, qDictF, qpCons, qpNil, qDispB, qDispT, keyPs, obD, qEqV, gSubQ, qNegI, qMets, at4_0, at4_1, at4_2, at4_3, ix4_1, ix4_2, ix4_3])
local macro_rules | `(tactic| walk_at "rs") => `(tactic| simp only [qVar_z, qVar_s, qC, qNext, qRet, qRetN, qIfS, qTest, qIs, qOp, qUn, qAnd, qOr, qNot, qAndV, qOrV, qNotV, qCB, qCons, qNil, okQ_some, okQ_none, qIf, qChain, qI, qIC, r1_rd, r2_rd, Qd.rLen, qLc, qIt, rAllQ, rAnyQ, rSumQ, rMinQ, rMaxQ, rAbsQ, rIntQ, newL_f, newL_t, Bool.false_eq_true, if_false, qInS, qEq, qNe, qIsN, qNotN, qDrop, if_true, qDcB, qFill, kkB, qDGet, kkK, qDcK, qFzD, qAsg, tset_nm, tset_tp, tsets_nil, tsets_nm, tsets_tp, wipe_nil, wipe_cons, List.set_cons_zero, List.set_cons_succ, qRaise, qFor, qRng1, qRng2, qTup, qLst, qPar, eqD_int, eqD_str, eqD_bl, itD_lst, itD_tup, itD_dic, lenD_lst, lenD_tup, lenD_dic, dicD_dic, lstD_lst, seqD_lst, seqD_tup, qSl, qoNone, qoSome, qRevL, qLrg1, qLrg2, qCX, qKw, qKwX, List.length_cons, List.length_nil, List.map_cons, List.map_nil, qAsgG, gTupQ, gConsQ, gSubT, gNilQ, qTGet, qDcT, kkT, qNewT, qNewK, List.length_map, Int.toNat_natCast, ditD_mut, qIx_tup, qIx_lst, keysT_2, Bool.or_true, Bool.true_or, Int.zero_add, isN_tup, isN_lst, isN_int, isN_dic, isN_non, at_zero, qMeth, qAddL, qMulL, rTupQ, qCBw, qLX, qLKw, qMet, pick_0, pick_10, qFz, qFzN, qDispF, qNewF, qDictF, qpCons, qpNil, qDispB, qDispT, keyPs, obD, qEqV, gSubQ, qNegI, qMets, at4_0, at4_1, at4_2, at4_3, ix4_1, ix4_2, ix4_3])
section
variable {P : Program} {w : World} {K : PySem.W.Frag} {mg : Str → Option Value} {base : Heap}
abbrev exK (K : PySem.W.Frag) : Addr → Addr → Option Bool := fun c d => PySem.W.exmOne K (.ref c) (.ref d)
def metC (C C0 : Addr) : List MetC := [(C0, "not prefix", none), (C, "code", some "code")]
/-- which of the two errors is caught by which clause -/
structure ExF (K : PySem.W.Frag) (C C0 : Addr) : Prop where
  zz : exK K C0 C0 = some true
  cz : exK K C C0 = some false
  cc : exK K C C = some true
theorem met_code {C C0 : Addr} (X : ExF K C C0) {P : KQ} {d : D} {A : MH} (h : P (.tup [.str "code", d]) A) : metQ (exK K) P (metC C C0) C [("code", d)] A :=
  .inr ⟨X.cz, .inl ⟨X.cc, rfl, d, rfl, h⟩⟩
theorem met_zero {C C0 : Addr} (X : ExF K C C0) {P : KQ} {A : MH} (h : P (.tup [.str "not prefix", .non]) A) : metQ (exK K) P (metC C C0) C0 [] A := .inl ⟨X.zz, h⟩
abbrev tbL (Pl Pv : Addr) : List (Addr × Str) := [(Pl, "law.<locals>.<lambda>"), (Pv, "_law_is_very.<locals>.<lambda>")]
def r_very (P : Program) (w : World) (K : PySem.W.Frag) (mg : Str → Option Value) (base : Heap) (C : Addr) : RNQ := fun ds A Q => ∃ (l : Lm) (rl : RXQ), ds = [.str "code", .lam l] ∧ LamD P w K mg base 7 l rl ∧
  (∀ a A' (x2 : XKQ) Q', A' a = some (.lst [.str "odd"]) → x2 C [("code", .mut a)] A' → rl [.mut a] A' Q' x2) ∧ ∀ A', Q (.bl true) A'
theorem d__law_is_very (Z : Nv K mg) {C C0 : Addr} (E_BadCode : ErrC P w K mg base 1 "BadCode" C "code") (E_NotPrefix : Err0 K mg "NotPrefix" C0) (xf : XfC K C) (hno : PySem.W.findIn K (.ref C) "code" = some none) (XF : ExF K C C0)
    {Pl Pv : Addr} (hV : MkAt K mg base "_law_is_very" s__law_is_very Pv) (hne : Pl ≠ Pv) : DefT P w K mg base 11 "_law_is_very" (defArgs s__law_is_very) ["word", "ask"] (tbL Pl Pv) (r_very P w K mg base C) := mkDefT hV Z.f__law_is_very (fun f oc od an osl kV doc pm ct c lk hcd TBv => by
  have S := sc__law_is_very
  refine def_okT lk hcd S (by rintro ds A P ⟨l, rl, rfl, _⟩; rfl) fun A outer s H E hr => ?_
  have G__law_same := d__law_same (P := P) (w := w) (base := base) Z 4
  have HR__law_same := hr.mono (show 5 ≤ 10 by decide)
  have huv : ∀ p ∈ tbL Pl Pv, p.1 = Pv → p.2 = "_law_is_very.<locals>.<lambda>" := fun p hp e => by
    rcases List.mem_cons.mp hp with h | h
    · rw [h] at e; exact absurd e hne
    · rw [List.mem_singleton.mp h]
  obtain ⟨g, fdg, Fg, mgg⟩ := Z.f__law_met
  obtain ⟨ocg, odg, kVg, docg, pmg, ang, cdvg, ctg, oslg, rfl, lkg, hcg⟩ := Fg.ex
  have hbg := Fg.binds (ps := ["ask"]) (fun _ _ _ _ _ _ us hl => match us, hl with | [_], _ => rfl)
  refine ⟨_, (psq_cons (psq_set (i := 2) S.nd (pq_lst true (paq_cons pq_str paq_nil))) (psq_cons (psq_set (i := 3) S.nd (pq_mets (ex := exK K) (cs := metC C C0) (told := "told") mgg Fg.kp lkg hcg hbg sc__law_met rfl (.inl rfl) (fun _ _ _ e => e) (mets_gives sc__law_met rfl (fun _ => rfl) (.plain rfl E_NotPrefix.gm rfl (.named rfl E_BadCode.gm rfl xf hno rfl rfl .nil))) TBv rfl (.tail _ (.head _)) huv (hr.mono (show 10 ≤ 10 by decide)) (LamX.lamS_by (show LamX.lamSB (defScope s__law_is_very) _ = true by decide +kernel)) fun _ _ _ _ _ _ _ x2l hrl => (pq_ask (P1 := P) (w1 := w) (K1 := K) (mg1 := mg) (base1 := base) (x2 := x2l) (i := 1) rfl (by first | exact Or.inl rfl | exact Or.inr (Or.inl rfl) | exact Or.inr (Or.inr rfl)) hrl pass_lam (qv 2)))) (psq_cons (psq_expr (pq_append (qv 2) (paq_cons pq_str paq_nil))) (psq_one (psq_ret (pq_fnw 3 G__law_same HR__law_same (paq_cons (qv 3) (paq_cons (pq_tup (paq_cons (qv 0) (paq_cons (qv 2) paq_nil))) paq_nil)))))))), ?_⟩
  rintro ds A P ⟨l, rl, rfl, LD, hrl, hP⟩
  rw [show startQ ["word", "ask", "odd", "found"] [D.str "code", D.lam l] = [some (D.str "code"), some (D.lam l), none, none] from rfl]
  refine qSeq_st fun N1 n1 => ?_
  walk_at "rs"
  refine ⟨by decide, fun a ha => n1 _ _ (qSeq_st fun N2 n2 => ?_)⟩
  walk_at "rs"
  refine ⟨rl, LD, hrl _ _ _ _ MH.set_same (met_code XF ?_)⟩
  refine n2 _ _ (qSeq_st fun N3 n3 => ?_)
  walk_at "rs"
  rw [isLm_mut MH.set_same, app_mut MH.set_same, MH.set_set]
  refine ⟨trivial, by decide, n3 _ _ ?_⟩
  walk_at "rs"
  refine ⟨by decide, ?_⟩
  have v : viewN 3 (A.set a (MO.lst ([D.str "odd"] ++ [D.str "late"]))) (.tup [.str "code", .mut a]) = some (.tup [.str "code", .lst [.str "odd", .str "late"]]) := by
    show (viewL (viewN 2 _) [.str "code", .mut a]).map D.tup = _
    have : viewN 2 (A.set a (MO.lst ([D.str "odd"] ++ [D.str "late"]))) (.mut a) = some (.lst [.str "odd", .str "late"]) := by
      show (match (A.set a (MO.lst ([D.str "odd"] ++ [D.str "late"]))) a with | some (.lst ds) => (viewL (viewN 1 _) ds).map D.lst | _ => none) = _
      rw [MH.set_same]; rfl
    unfold viewL viewL
    rw [this]; rfl
  unfold viewL viewL
  rw [v]
  exact ⟨_, rfl, by decide, by decide, rfl, hP _⟩) (fun _ _ _ _ _ _ us hl => match us, hl with | [_, _], _ => rfl)
end
end K66


set_option Elab.async false
set_option linter.all false
set_option maxRecDepth 100000
set_option maxHeartbeats 4000000
namespace K66
open PySem L2 Qd
local macro_rules | `(tactic| walk_at "rd") => `(tactic| simp only [qVar_z, qVar_s, qC, qSeq, qNext, qRet, qRetN, qIfS, qTest, qIs, qOp, qUn, qAnd, qOr, qNot, qAndV, qOrV, qNotV, qCB, qCons, qNil, okQ_some, okQ_none, qIf, qChain, qI, qIC, r1_rd, r2_rd, Qd.rLen, qLc, qIt, rAllQ, rAnyQ, rSumQ, rMinQ, rMaxQ, rAbsQ, rIntQ, newL_f, newL_t, Bool.false_eq_true, if_false, qInS, qEq, qNe, qIsN, qNotN, qDrop, if_true, qDcB, qFill, kkB, qDGet, kkK, qDcK, qFzD, qAsg, tset_nm, tset_tp, tsets_nil, tsets_nm, tsets_tp, wipe_nil, wipe_cons, List.set_cons_zero, List.set_cons_succ, qRaise, qFor, qRng1, qRng2, qTup, qLst, qPar, eqD_int, eqD_str, eqD_bl, itD_lst, itD_tup, itD_dic, lenD_lst, lenD_tup, lenD_dic, dicD_dic, lstD_lst, seqD_lst, seqD_tup, qSl, qoNone, qoSome, qRevL, qLrg1, qLrg2, qCX, qKw, qKwX, List.length_cons, List.length_nil, List.map_cons, List.map_nil, qAsgG, gTupQ, gConsQ, gSubT, gNilQ, qTGet, qDcT, kkT, qNewT, qNewK, List.length_map, Int.toNat_natCast, ditD_mut, qIx_tup, qIx_lst, keysT_2, Bool.or_true, Bool.true_or, Int.zero_add, isN_tup, isN_lst, isN_int, isN_dic, isN_non, at_zero, qMeth, qAddL, qMulL, rTupQ, qCBw, qLX, qLKw, qMet, pick_0, pick_10, qFz, qFzN, qDispF, qNewF, qDictF, qpCons, qpNil, qDispB, qDispT, keyPs, obD, qEqV, gSubQ, qNegI, qMets, at4_0, at4_1, at4_2, at4_3, ix4_1, ix4_2, ix4_3])
local macro_rules | `(tactic| walk_at "rs") => `(tactic| simp only [qVar_z, qVar_s, qC, qNext, qRet, qRetN, qIfS, qTest, qIs, qOp, qUn, qAnd, qOr, qNot, qAndV, qOrV, qNotV, qCB, qCons, qNil, okQ_some, okQ_none, qIf, qChain, qI, qIC, r1_rd, r2_rd, Qd.rLen, qLc, qIt, rAllQ, rAnyQ, rSumQ, rMinQ, rMaxQ, rAbsQ, rIntQ, newL_f, newL_t, Bool.false_eq_true, if_false, qInS, qEq, qNe, qIsN, qNotN, qDrop, if_true, qDcB, qFill, kkB, qDGet, kkK, qDcK, qFzD, qAsg, tset_nm, tset_tp, tsets_nil, tsets_nm, tsets_tp, wipe_nil, wipe_cons, List.set_cons_zero, List.set_cons_succ, qRaise, qFor, qRng1, qRng2, qTup, qLst, qPar, eqD_int, eqD_str, eqD_bl, itD_lst, itD_tup, itD_dic, lenD_lst, lenD_tup, lenD_dic, dicD_dic, lstD_lst, seqD_lst, seqD_tup, qSl, qoNone, qoSome, qRevL, qLrg1, qLrg2, qCX, qKw, qKwX, List.length_cons, List.length_nil, List.map_cons, List.map_nil, qAsgG, gTupQ, gConsQ, gSubT, gNilQ, qTGet, qDcT, kkT, qNewT, qNewK, List.length_map, Int.toNat_natCast, ditD_mut, qIx_tup, qIx_lst, keysT_2, Bool.or_true, Bool.true_or, Int.zero_add, isN_tup, isN_lst, isN_int, isN_dic, isN_non, at_zero, qMeth, qAddL, qMulL, rTupQ, qCBw, qLX, qLKw, qMet, pick_0, pick_10, qFz, qFzN, qDispF, qNewF, qDictF, qpCons, qpNil, qDispB, qDispT, keyPs, obD, qEqV, gSubQ, qNegI, qMets, at4_0, at4_1, at4_2, at4_3, ix4_1, ix4_2, ix4_3])
section
variable {P : Program} {w : World} {K : PySem.W.Frag} {mg : Str → Option Value} {base : Heap}
/-! keys in order, words in order, in plain Lean -/
theorem syms_ok (A : MH) {ks : List Key} (h : SymsOk ks) (hl : ks.length ≤ 100000) : symsQ A (ks.map kD) = some true := by
  unfold symsQ
  have ne : ks.map kD ≠ [] := fun z => h.2.2 (List.map_eq_nil_iff.mp z)
  rw [if_pos (by rw [List.length_map]; exact hl)]
  have fin : ∀ t : Ty, (∀ k ∈ ks, tyQ A (kD k) = some t) → (∀ k ∈ ks, symQ A (kD k) = some true) → ((mapO (symQ A) (ks.map kD)).bind fun bs => if ks.map kD = [] ∨ bs.all id = false then some false else (mapO (tyQ A) (ks.map kD)).map fun ts => ts.all (fun t => decide (t = .str)) || ts.all (fun t => !decide (t = .str))) = some true := fun t h1 h2 => by
    rw [mapO_map (k := fun _ => true) h2, mapO_map (k := fun _ => t) h1, Option.bind_some, if_neg (by rintro (z | z); exact ne z; simp at z), Option.map_some]
    by_cases ht : t = .str <;> simp [ht]
  rcases h.1 with ⟨is, rfl, hi⟩ | ⟨ss, rfl, hi⟩
  · refine fin .int (fun k hk => ?_) fun k hk => ?_ <;> obtain ⟨i, hm, rfl⟩ := List.mem_map.mp hk
    · rfl
    · show some (decide (0 ≤ i) && decide (i ≤ 255)) = some true
      rw [decide_eq_true (hi i hm).1, decide_eq_true (hi i hm).2]; rfl
  · refine fin .str (fun k hk => ?_) fun k hk => ?_ <;> obtain ⟨x, hm, rfl⟩ := List.mem_map.mp hk
    · rfl
    · have h1 := hi x hm
      have h3 : x.length ≤ 8 := by
        unfold symS at h1
        rw [Bool.and_eq_true, Bool.and_eq_true, decide_eq_true_eq, decide_eq_true_eq] at h1
        exact h1.2.1
      show (if x.length ≤ 100000 then some (symS x) else none) = some true
      rw [h1, if_pos (by omega)]
theorem sym_one (A : MH) {ks : List Key} (h : SymsOk ks) : ∀ k ∈ ks, symQ A (kD k) = some true := by
  rcases h.1 with ⟨is, rfl, hi⟩ | ⟨ss, rfl, hi⟩ <;> intro k hk <;> obtain ⟨x, hm, rfl⟩ := List.mem_map.mp hk
  · show some (decide (0 ≤ x) && decide (x ≤ 255)) = some true
    rw [decide_eq_true (hi x hm).1, decide_eq_true (hi x hm).2]; rfl
  · have h1 := hi x hm
    have h3 : x.length ≤ 8 := by
      unfold symS at h1
      rw [Bool.and_eq_true, Bool.and_eq_true, decide_eq_true_eq, decide_eq_true_eq] at h1
      exact h1.2.1
    show (if x.length ≤ 100000 then some (symS x) else none) = some true
    rw [h1, if_pos (by omega)]
theorem bitS_sw (b : List Bool) : bitS (sw b) = true := by
  unfold bitS
  rw [sw_cps, List.all_map, List.all_eq_true]
  intro c _
  cases c <;> decide
/-- a code of symbols is kept, its symbols ascending -/
theorem keptC_tab (A : MH) {ks ls : List Key} {B : Key → List Bool} (h : AnyB ks B) (hl : ks.length < 64) (p : ls.Perm ks) : f_keptC A (codB ls B) = some (codB (srtK ks) B) := by
  have sl := h.sy.perm p
  have pk := srtK_perm h.sy.one
  have ll := p.length_eq
  have e1 : ((tabK ls fun k => D.str (sw (B k))).map fun p => (kD p.1, p.2)).map (·.1) = ls.map kD := by
    unfold tabK
    rw [List.map_map, List.map_map]; rfl
  have sz : ∀ k ∈ ls, 1 ≤ (B k).length ∧ (B k).length ≤ 8 := fun k hk => h.sz k (p.mem_iff.mp hk)
  unfold f_keptC
  rw [show tyQ A (codB ls B) = some .dic from rfl, Option.bind_some, if_neg (by simp)]
  show ((some ((tabK ls fun k => .str (sw (B k))).map fun p => (kD p.1, p.2))).bind _) = _
  rw [Option.bind_some, e1, syms_ok A sl (by omega), Option.bind_some, if_neg (by decide)]
  show (if (tabK ls fun k => D.str (sw (B k))).length < 64 then _ else none) = _
  rw [if_pos (by rw [tabK_length]; omega)]
  have e2 : mapO (fun p : Key × D => (getA (tabK ls fun k => D.str (sw (B k))) p.1).bind (bit1 A)) (tabK ls fun k => D.str (sw (B k))) = some (ls.map fun _ => true) := by
    unfold tabK
    refine mapO_map fun k hk => ?_
    show (getA (tabK ls fun k => D.str (sw (B k))) k).bind (bit1 A) = some true
    rw [getA_tabK hk, Option.bind_some]
    show (if (sw (B k)).length ≤ 100000 then some (bitS (sw (B k)) && decide (sw (B k) ≠ "")) else none) = _
    have hz := sz k hk
    rw [if_pos (by rw [sw_len]; omega), bitS_sw, decide_eq_true (show sw (B k) ≠ "" from fun z => by
      have := congrArg Str.length z
      rw [sw_len] at this
      have e0 : Str.length "" = 0 := rfl
      omega)]; rfl
  rw [e2, Option.bind_some, if_neg (by simp)]
  unfold keptK
  rw [sort_tab sl.one sl.2.2, srtK_congr h.sy.one p, Option.bind_some]
  have e3 : mapO (fun k => (getA (tabK ls fun k => D.str (sw (B k))) k).map fun v => (k, v)) (srtK ks) = some (tabK (srtK ks) fun k => D.str (sw (B k))) := by
    have := @mapO_map Key (Key × D) Key (fun k => (getA (tabK ls fun k => D.str (sw (B k))) k).map fun v => (k, v)) id (fun k => (k, D.str (sw (B k)))) (srtK ks) fun k hk => by
      show (getA (tabK ls fun k => D.str (sw (B k))) k).map _ = _
      rw [getA_tabK (p.mem_iff.mpr (pk.mem_iff.mp hk))]; rfl
    rw [List.map_id] at this
    exact this
  have nds : (srtK ks).Nodup := pk.nodup_iff.mpr h.sy.2.1
  rw [e3, Option.bind_some, mergeA_tabK nds]
  have e4 : distC (tabK (srtK ks) fun k => D.str (sw (B k))) = some true := by
    unfold distC
    have e5 : mapO (fun p : Key × D => (getA (tabK (srtK ks) fun k => D.str (sw (B k))) p.1).bind keyD) (tabK (srtK ks) fun k => D.str (sw (B k))) = some ((srtK ks).map fun k => Sum.inr (sw (B k))) := by
      unfold tabK
      refine mapO_map fun k hk => ?_
      show (getA (tabK (srtK ks) fun k => D.str (sw (B k))) k).bind keyD = _
      rw [getA_tabK hk]; rfl
    rw [e5, Option.map_some, List.map_map, mergeA_nodup]
    · rw [List.length_map, tabK_length, decide_eq_true rfl]
    · rw [List.map_map]
      have hp : (srtK ks).Pairwise fun x y => B x ≠ B y := pk.symm.pairwise h.ne fun {x y} e => Ne.symm e
      show ((srtK ks).map fun k => (Sum.inr (sw (B k)) : Key)).Nodup
      rw [List.nodup_iff_pairwise_ne, List.pairwise_map]
      exact hp.imp fun {x y} e z => e (sw_inj (Sum.inr.inj z))
  rw [e4]; rfl
/-! no word begins another -/
theorem preS_sw {a b : List Bool} : preS (sw a) (sw b) = decide (a <+: b) := by
  unfold preS
  congr 1
  have e : cutS (sw b) none (some ((sw a).length : Int)) = sw (b.take a.length) := by
    unfold cutS
    rw [HT.sIx_nat, HT.sIx_none, sw_len, sw_len, sw_cps, List.drop_zero, Nat.sub_zero]
    unfold sw
    congr 2
    rw [← List.map_take]
    congr 1
    rcases Nat.le_total a.length b.length with h | h
    · rw [Nat.min_eq_left h]
    · rw [Nat.min_eq_right h, List.take_of_length_le (Nat.le_refl _), List.take_of_length_le h]
  rw [e]
  refine propext ⟨fun z => ?_, fun z => congrArg sw (List.prefix_iff_eq_take.mp z).symm⟩
  have := sw_inj z
  rw [← this]; exact List.take_prefix ..
theorem twoK_none {W : Key → Str} {ks : List Key} : ∀ {l : List Key}, (∀ a ∈ l, ∀ b ∈ ks, a ≠ b → preS (W a) (W b) = false) → twoK W ks l = none
  | [], _ => rfl
  | a :: r, h => by
    unfold twoK
    rw [show ks.find? (fun b => decide (a ≠ b) && preS (W a) (W b)) = none from List.find?_eq_none.mpr fun b hb z => by
      rw [Bool.and_eq_true, decide_eq_true_eq] at z
      rw [h a (.head _) b hb z.1] at z
      exact absurd z.2 (by decide)]
    exact twoK_none fun x hx => h x (.tail _ hx)
theorem twoK_some {W : Key → Str} {ks : List Key} {a b : Key} (hb : b ∈ ks) (hn : a ≠ b) (hp : preS (W a) (W b) = true) : ∀ {l : List Key}, a ∈ l → (twoK W ks l).isSome = true
  | [], h => nomatch h
  | c :: r, h => by
    unfold twoK
    split
    · rfl
    · rename_i e
      rcases List.mem_cons.mp h with q | q
      · subst q
        exfalso
        have := List.find?_eq_none.mp e b hb
        rw [hp, decide_eq_true hn] at this
        exact this rfl
      · exact twoK_some hb hn hp q
theorem pw_all {α : Type} {R : α → α → Prop} (sy : ∀ {x y}, R x y → R y x) : ∀ {l : List α}, l.Pairwise R → ∀ {a b}, a ∈ l → b ∈ l → a ≠ b → R a b
  | [], _, _, _, h, _, _ => nomatch h
  | c :: l, h, a, b, ha, hb, hn => by
    obtain ⟨h1, h2⟩ := List.pairwise_cons.mp h
    rcases List.mem_cons.mp ha with e | e <;> rcases List.mem_cons.mp hb with g | g
    · exact absurd (e.trans g.symm) hn
    · rw [e]; exact h1 b g
    · rw [g]; exact sy (h1 a e)
    · exact pw_all sy h2 e g hn
theorem apart_pair {ks : List Key} {B : Key → List Bool} (h : ks.Pairwise fun x y => Apart (B x) (B y)) {a b : Key} (ha : a ∈ ks) (hb : b ∈ ks) (hn : a ≠ b) : Apart (B a) (B b) :=
  pw_all (fun {x y} z => apart_comm z) h ha hb hn
theorem PreB.none {ks : List Key} {B : Key → List Bool} (h : PreB ks B) {ls : List Key} (p : ls.Perm ks) : twoK (fun k => sw (B k)) ls ls = none :=
  twoK_none fun a ha b hb hn => by
    rw [preS_sw, decide_eq_false]
    exact (apart_pair h.ap (p.mem_iff.mp ha) (p.mem_iff.mp hb) hn).1
theorem pre_two {ks : List Key} {B : Key → List Bool} (h : isPre ks (fun k => sw (B k)) = false) {ls : List Key} (p : ls.Perm ks) : (twoK (fun k => sw (B k)) ls ls).isSome = true := by
  unfold isPre at h
  rw [Bool.not_eq_false', List.any_eq_true] at h
  obtain ⟨a, ha, h⟩ := h
  rw [List.any_eq_true] at h
  obtain ⟨b, hb, h⟩ := h
  rw [Bool.and_eq_true, Bool.not_eq_true', decide_eq_false_iff_not] at h
  exact twoK_some (p.mem_iff.mpr hb) (fun z => h.1 (by rw [z])) h.2 (p.mem_iff.mpr ha)
/-! words in order -/
theorem lex_common {c u v : List Nat} : (c ++ u < c ++ v) ↔ u < v := by
  induction c with
  | nil => exact Iff.rfl
  | cons a c ih => rw [List.cons_append, List.cons_append, List.cons_lt_cons_iff]; simp [ih]
theorem lex_apart {p q : List Nat} : ∀ {u v : List Nat}, ¬ u <+: v → ¬ v <+: u → ((u ++ p < v ++ q) ↔ u < v)
  | [], _, h, _ => absurd (List.nil_prefix) h
  | _ :: _, [], _, h => absurd (List.nil_prefix) h
  | a :: u, b :: v, h1, h2 => by
    rw [List.cons_append, List.cons_append, List.cons_lt_cons_iff, List.cons_lt_cons_iff]
    by_cases e : a = b
    · subst e
      rw [lex_apart (fun z => h1 (by rw [List.cons_prefix_cons]; exact ⟨rfl, z⟩)) fun z => h2 (by rw [List.cons_prefix_cons]; exact ⟨rfl, z⟩)]
    · simp [e]
theorem map_prefix {a b : List Bool} : a.map sgn <+: b.map sgn ↔ a <+: b := by
  constructor
  · intro h
    rw [List.prefix_iff_eq_take, ← List.map_take, List.length_map] at h
    rw [List.prefix_iff_eq_take]
    exact List.map_inj_right (fun _ _ e => sgn_inj e) |>.mp h
  · exact fun h => h.map sgn
theorem ltS_sw (a b : List Bool) : ltS (sw a) (sw b) = decide (a.map sgn < b.map sgn) := rfl
theorem ltS_apart {u v p q : List Bool} (h : Apart u v) : ltS (sw (u ++ p)) (sw (v ++ q)) = ltS (sw u) (sw v) := by
  rw [ltS_sw, ltS_sw, List.map_append, List.map_append]
  congr 1
  exact propext (lex_apart (fun z => h.1 (map_prefix.mp z)) fun z => h.2 (map_prefix.mp z))
theorem ltS_common {c u v : List Bool} : ltS (sw (c ++ u)) (sw (c ++ v)) = ltS (sw u) (sw v) := by
  rw [ltS_sw, ltS_sw, List.map_append, List.map_append]
  congr 1
  exact propext lex_common
theorem gtS_le {a b : Str} : gtS a b = false ↔ leS a b = true := by
  rw [leS_iff, decide_eq_false_iff_not]
/-- order of keys of one sort -/
def ltK : Key → Key → Bool
  | .inl i, .inl j => ltI i j
  | .inr x, .inr y => ltS x y
  | _, _ => false
theorem turn_pw {W : Key → Str} : ∀ {l : List Key}, turnK W l = none → l.Pairwise fun a b => leS (W a) (W b) = true
  | [], _ => .nil
  | [a], _ => by simp
  | a :: b :: r, h => by
    unfold turnK at h
    split at h
    · cases h
    · rename_i g
      have ih := turn_pw h
      have hab : leS (W a) (W b) = true := gtS_le.mp (by simpa using g)
      refine List.pairwise_cons.mpr ⟨fun c hc => ?_, ih⟩
      rcases List.mem_cons.mp hc with e | e
      · rw [e]; exact hab
      · exact leS_trans _ _ _ hab ((List.pairwise_cons.mp ih).1 c e)
theorem srtK_pw {ks : List Key} (h : OneSort ks) (nd : ks.Nodup) (h0 : ks ≠ []) : (srtK ks).Pairwise fun a b => ltK a b = true := by
  have nds : (srtK ks).Nodup := (srtK_perm h).nodup_iff.mpr nd
  rcases h with ⟨is, rfl⟩ | ⟨ss, rfl⟩
  · rw [srtK_ints] at nds ⊢
    rw [List.nodup_iff_pairwise_ne, List.pairwise_map] at nds
    rw [List.pairwise_map]
    refine ((srtI_sorted is).and nds).imp fun {a b} ⟨h1, h2⟩ => ?_
    show decide (a < b) = true
    have : a ≠ b := fun z => h2 (by rw [z])
    exact decide_eq_true (by omega)
  · have hs : ss ≠ [] := fun z => h0 (by rw [z]; rfl)
    rw [srtK_strs hs] at nds ⊢
    rw [List.nodup_iff_pairwise_ne, List.pairwise_map] at nds
    rw [List.pairwise_map]
    refine ((srtS_sorted ss).and nds).imp fun {a b} ⟨h1, h2⟩ => ?_
    have hn : a ≠ b := fun z => h2 (by rw [z])
    show decide (a.cps.toList < b.cps.toList) = true
    refine decide_eq_true (Classical.byContradiction fun z => hn (leS_anti h1 (leS_iff.mpr z)))
theorem ltK_asymm {a b : Key} (h : ltK a b = true) : ltK b a = false := by
  cases a with
  | inl i => cases b with
    | inl j => have : i < j := of_decide_eq_true h; exact decide_eq_false (by omega)
    | inr _ => cases h
  | inr x => cases b with
    | inl _ => cases h
    | inr y => exact decide_eq_false (List.lt_asymm (of_decide_eq_true h))
/-- by an ordered code rows and their bits ascend alike -/
theorem rows_alike {ks : List Key} {B : Key → List Bool} (h : PreB ks B) (ht : turnK (fun k => sw (B k)) (srtK ks) = none) : ∀ {r t : List Key}, (∀ k ∈ r, k ∈ ks) → (∀ k ∈ t, k ∈ ks) → r.take (min r.length t.length) ≠ t.take (min r.length t.length) →
    ltL ltK r t = ltS (sw (r.map B).flatten) (sw (t.map B).flatten)
  | [], _, _, _, hn => absurd (by simp) hn
  | _ :: _, [], _, _, hn => absurd (by simp) hn
  | x :: r, y :: t, hr, hs, hn => by
    rw [List.map_cons, List.map_cons, List.flatten_cons, List.flatten_cons]
    unfold ltL
    by_cases e : x = y
    · subst e
      rw [if_pos rfl, ltS_common]
      refine rows_alike h ht (fun k hk => hr k (.tail _ hk)) (fun k hk => hs k (.tail _ hk)) fun z => hn ?_
      rw [List.length_cons, List.length_cons, Nat.succ_min_succ, List.take_succ_cons, List.take_succ_cons, z]
    · rw [if_neg e]
      have hx := hr x (.head _)
      have hy := hs y (.head _)
      rw [ltS_apart (apart_pair h.ap hx hy e)]
      have pk := srtK_perm h.sy.one
      have both := (srtK_pw h.sy.one h.sy.2.1 h.sy.2.2).and (turn_pw ht)
      have key : ∀ {a b : Key}, a ∈ ks → b ∈ ks → a ≠ b → leS (sw (B a)) (sw (B b)) = true → ltS (sw (B a)) (sw (B b)) = true := fun {a b} ha hb hn hl => by
        refine decide_eq_true (Classical.byContradiction fun z => ?_)
        have := sw_inj (leS_anti hl (leS_iff.mpr z))
        exact (apart_pair h.ap ha hb hn).1 (by rw [this]; exact List.prefix_refl _)
      have two : (ltK x y = true ∧ leS (sw (B x)) (sw (B y)) = true) ∨ (ltK y x = true ∧ leS (sw (B y)) (sw (B x)) = true) :=
        pw_all (R := fun a b => (ltK a b = true ∧ leS (sw (B a)) (sw (B b)) = true) ∨ (ltK b a = true ∧ leS (sw (B b)) (sw (B a)) = true)) (fun {a b} z => z.symm) (both.imp fun z => .inl z) (pk.mem_iff.mpr hx) (pk.mem_iff.mpr hy) e
      rcases two with ⟨h1, h2⟩ | ⟨h1, h2⟩
      · rw [h1, key hx hy e h2]
      · rw [ltK_asymm h1]
        have := key hy hx (Ne.symm e) h2
        exact (decide_eq_false (List.lt_asymm (of_decide_eq_true this))).symm
end
end K66


set_option Elab.async false
set_option linter.all false
set_option maxRecDepth 100000
set_option maxHeartbeats 4000000
namespace K66
open PySem L2 Qd
local macro_rules | `(tactic| walk_at "rd") => `(tactic| simp only [qVar_z, qVar_s, qC, qSeq, qNext, qRet, qRetN, qIfS, qTest, qIs, qOp, qUn, qAnd, qOr, qNot, qAndV, qOrV, qNotV, qCB, qCons, qNil, okQ_some, okQ_none, qIf, qChain, qI, qIC, r1_rd, r2_rd, Qd.rLen, qLc, qIt, rAllQ, rAnyQ, rSumQ, rMinQ, rMaxQ, rAbsQ, rIntQ, newL_f, newL_t, Bool.false_eq_true, if_false, qInS, qEq, qNe, qIsN, qNotN, qDrop, if_true, qDcB, qFill, kkB, qDGet, kkK, qDcK, qFzD, qAsg, tset_nm, tset_tp, tsets_nil, tsets_nm, tsets_tp, wipe_nil, wipe_cons, List.set_cons_zero, List.set_cons_succ, qRaise, qFor, qRng1, qRng2, qTup, qLst, qPar, eqD_int, eqD_str, eqD_bl, itD_lst, itD_tup, itD_dic, lenD_lst, lenD_tup, lenD_dic, dicD_dic, lstD_lst, seqD_lst, seqD_tup, qSl, qoNone, qoSome, qRevL, qLrg1, qLrg2, qCX, qKw, qKwX, List.length_cons, List.length_nil, List.map_cons, List.map_nil, qAsgG, gTupQ, gConsQ, gSubT, gNilQ, qTGet, qDcT, kkT, qNewT, qNewK, List.length_map, Int.toNat_natCast, ditD_mut, qIx_tup, qIx_lst, keysT_2, Bool.or_true, Bool.true_or, Int.zero_add, isN_tup, isN_lst, isN_int, isN_dic, isN_non, at_zero, qMeth, qAddL, qMulL, rTupQ, qCBw, qLX, qLKw, qMet, pick_0, pick_10, qFz, qFzN, qDispF, qNewF, qDictF, qpCons, qpNil, qDispB, qDispT, keyPs, obD, qEqV, gSubQ, qNegI, qMets, at4_0, at4_1, at4_2, at4_3, ix4_1, ix4_2, ix4_3])
local macro_rules | `(tactic| walk_at "rs") => `(tactic| simp only [qVar_z, qVar_s, qC, qNext, qRet, qRetN, qIfS, qTest, qIs, qOp, qUn, qAnd, qOr, qNot, qAndV, qOrV, qNotV, qCB, qCons, qNil, okQ_some, okQ_none, qIf, qChain, qI, qIC, r1_rd, r2_rd, Qd.rLen, qLc, qIt, rAllQ, rAnyQ, rSumQ, rMinQ, rMaxQ, rAbsQ, rIntQ, newL_f, newL_t, Bool.false_eq_true, if_false, qInS, qEq, qNe, qIsN, qNotN, qDrop, if_true, qDcB, qFill, kkB, qDGet, kkK, qDcK, qFzD, qAsg, tset_nm, tset_tp, tsets_nil, tsets_nm, tsets_tp, wipe_nil, wipe_cons, List.set_cons_zero, List.set_cons_succ, qRaise, qFor, qRng1, qRng2, qTup, qLst, qPar, eqD_int, eqD_str, eqD_bl, itD_lst, itD_tup, itD_dic, lenD_lst, lenD_tup, lenD_dic, dicD_dic, lstD_lst, seqD_lst, seqD_tup, qSl, qoNone, qoSome, qRevL, qLrg1, qLrg2, qCX, qKw, qKwX, List.length_cons, List.length_nil, List.map_cons, List.map_nil, qAsgG, gTupQ, gConsQ, gSubT, gNilQ, qTGet, qDcT, kkT, qNewT, qNewK, List.length_map, Int.toNat_natCast, ditD_mut, qIx_tup, qIx_lst, keysT_2, Bool.or_true, Bool.true_or, Int.zero_add, isN_tup, isN_lst, isN_int, isN_dic, isN_non, at_zero, qMeth, qAddL, qMulL, rTupQ, qCBw, qLX, qLKw, qMet, pick_0, pick_10, qFz, qFzN, qDispF, qNewF, qDictF, qpCons, qpNil, qDispB, qDispT, keyPs, obD, qEqV, gSubQ, qNegI, qMets, at4_0, at4_1, at4_2, at4_3, ix4_1, ix4_2, ix4_3])
section
variable {P : Program} {w : World} {K : PySem.W.Frag} {mg : Str → Option Value} {base : Heap}
/-! == and < of lists of keys -/
def kP : Key → PyData
  | .inl i => .int i
  | .inr x => .str x
theorem toPys_k : ∀ ks : List Key, toPys (ks.map kD) = some (ks.map kP)
  | [] => rfl
  | k :: ks => by
    rw [List.map_cons]
    show (match toPy (kD k), toPys (ks.map kD) with | some d, some ds => some (d :: ds) | _, _ => none) = _
    rw [toPys_k ks]
    cases k <;> rfl
/-- its signs are signs -/
def okK : Key → Bool
  | .inl _ => true
  | .inr x => PyData.strOk x
theorem okK_sym {ks : List Key} (h : SymsOk ks) : ∀ k ∈ ks, okK k = true := by
  rcases h.1 with ⟨is, rfl, _⟩ | ⟨ss, rfl, hs⟩ <;> intro k hk <;> obtain ⟨x, hm, rfl⟩ := List.mem_map.mp hk
  · rfl
  · have := hs x hm
    unfold symS at this
    rw [Bool.and_eq_true, Bool.and_eq_true, List.all_eq_true] at this
    show x.cps.all (· < 0x110000) = true
    rw [← Array.all_toList, List.all_eq_true]
    intro c hc
    have h3 : c ∈ letters.cps.toList := of_decide_eq_true (this.2.2 c hc)
    have all : ∀ c ∈ letters.cps.toList, c < 0x110000 := by decide +kernel
    exact decide_eq_true (all c h3)
theorem lay_k : ∀ {ks : List Key}, (∀ k ∈ ks, okK k = true) → PyData.canLayAll0 (ks.map kP) = true
  | [], _ => by simp [PyData.canLayAll0]
  | k :: ks, h => by
    have h1 := h k (.head _)
    have h2 := lay_k fun x hx => h x (.tail _ hx)
    cases k with
    | inl i => simp [PyData.canLayAll0, PyData.canLay0, kP, h2]
    | inr x => simp only [List.map_cons, PyData.canLayAll0, PyData.canLay0, kP, h2, Bool.and_true]; exact h1
theorem depth_k : ∀ ks : List Key, PyData.depthAll (ks.map kP) ≤ 1
  | [] => by simp [PyData.depthAll]
  | k :: ks => by
    have := depth_k ks
    cases k <;> simp [PyData.depthAll, PyData.depth, kP] <;> omega
theorem shaped_k {ks : List Key} (h : ∀ k ∈ ks, okK k = true) : SeqAt.shaped (.list (ks.map kP)) = true := by
  unfold SeqAt.shaped
  rw [Bool.and_eq_true]
  refine ⟨?_, decide_eq_true ?_⟩
  · simp [PyData.canLay0, lay_k h]
  · have := depth_k ks
    simp [PyData.depth]
    omega
theorem eqv_k : ∀ xs ys : List Key, PyData.eqvAll (xs.map kP) (ys.map kP) = decide (xs = ys)
  | [], [] => by simp [PyData.eqvAll]
  | [], _ :: _ => by simp [PyData.eqvAll]
  | _ :: _, [] => by simp [PyData.eqvAll]
  | x :: xs, y :: ys => by
    have := eqv_k xs ys
    cases x with
    | inl i => cases y with
      | inl j => simp [PyData.eqvAll, PyData.eqv, kP, this]; rfl
      | inr y => simp [PyData.eqvAll, PyData.eqv, kP, this]
    | inr x => cases y with
      | inl j => simp [PyData.eqvAll, PyData.eqv, kP, this]
      | inr y => simp [PyData.eqvAll, PyData.eqv, kP, this]; rw [Bool.beq_eq_decide_eq]
theorem eqD_keys {xs ys : List Key} (h1 : ∀ k ∈ xs, okK k = true) (h2 : ∀ k ∈ ys, okK k = true) : eqD (.lst (xs.map kD)) (.lst (ys.map kD)) = some (decide (xs = ys)) := by
  have e : eqP (.lst (xs.map kD)) (.lst (ys.map kD)) = some (decide (xs = ys)) := by
    unfold eqP
    rw [show toPy (.lst (xs.map kD)) = some (.list (xs.map kP)) by unfold toPy; rw [toPys_k]; rfl, show toPy (.lst (ys.map kD)) = some (.list (ys.map kP)) by unfold toPy; rw [toPys_k]; rfl]
    show (if SeqAt.shaped (.list (xs.map kP)) = true ∧ SeqAt.shaped (.list (ys.map kP)) = true then some (PyData.eqv (.list (xs.map kP)) (.list (ys.map kP))) else none) = _
    rw [if_pos ⟨shaped_k h1, shaped_k h2⟩, ← eqv_k]
    simp [PyData.eqv]
  unfold eqD
  rw [show eqS (.lst (xs.map kD)) (.lst (ys.map kD)) = none from rfl]
  exact e
theorem eqD_ord {t : Option (Key × Key)} (h : ∀ a b, t = some (a, b) → okK a = true ∧ okK b = true) : eqD (ordD t) (.tup [.str "ordered"]) = some (decide (t = none)) := by
  unfold eqD
  rcases t with _ | ⟨a, b⟩
  · show eqP (.tup [.str "ordered"]) (.tup [.str "ordered"]) = _
    unfold eqP
    rw [show toPy (.tup [.str "ordered"]) = some (.tuple [.str "ordered"]) from rfl]
    show (if SeqAt.shaped _ = true ∧ SeqAt.shaped _ = true then some (PyData.eqv _ _) else none) = _
    have : SeqAt.shaped (.tuple [.str "ordered"]) = true := by
      unfold SeqAt.shaped
      simp [PyData.canLay0, PyData.canLayAll0, PyData.depth, PyData.depthAll]
      decide +kernel
    rw [if_pos ⟨this, this⟩]
    simp [PyData.eqv, PyData.eqvAll]
  · obtain ⟨ha, hb⟩ := h a b rfl
    show eqP (.tup [.str "two", kD a, kD b]) (.tup [.str "ordered"]) = _
    unfold eqP
    rw [show toPy (.tup [.str "two", kD a, kD b]) = some (.tuple [.str "two", kP a, kP b]) by cases a <;> cases b <;> rfl, show toPy (.tup [.str "ordered"]) = some (.tuple [.str "ordered"]) from rfl]
    show (if SeqAt.shaped _ = true ∧ SeqAt.shaped _ = true then some (PyData.eqv _ _) else none) = _
    have h1 : SeqAt.shaped (.tuple [.str "ordered"]) = true := by
      unfold SeqAt.shaped
      simp [PyData.canLay0, PyData.canLayAll0, PyData.depth, PyData.depthAll]
      decide +kernel
    have h2 : SeqAt.shaped (.tuple [.str "two", kP a, kP b]) = true := by
      have c := lay_k (ks := [a, b]) fun k hk => by
        rcases List.mem_cons.mp hk with e | e
        · rw [e]; exact ha
        · rw [List.mem_singleton.mp e]; exact hb
      have d := depth_k [a, b]
      have c' : PyData.canLayAll0 [kP a, kP b] = true := c
      have d' : PyData.depthAll [kP a, kP b] ≤ 1 := d
      unfold SeqAt.shaped
      rw [Bool.and_eq_true]
      refine ⟨?_, decide_eq_true ?_⟩
      · show PyData.canLay0 (.tuple (.str "two" :: [kP a, kP b])) = true
        unfold PyData.canLay0 PyData.canLayAll0
        rw [c', Bool.and_true]
        unfold PyData.canLay0
        decide +kernel
      · show PyData.depth (.tuple (.str "two" :: [kP a, kP b])) ≤ 64
        unfold PyData.depth PyData.depthAll
        unfold PyData.depth
        omega
    rw [if_pos ⟨h2, h1⟩]
    simp [PyData.eqv, PyData.eqvAll]
theorem ltL_map {α β : Type} [DecidableEq α] [DecidableEq β] {f : α → β} (hf : ∀ a b, f a = f b → a = b) {lt : α → α → Bool} {lt' : β → β → Bool} (h : ∀ a b, lt' (f a) (f b) = lt a b) : ∀ xs ys : List α, ltL lt' (xs.map f) (ys.map f) = ltL lt xs ys
  | [], [] => rfl
  | [], _ :: _ => rfl
  | _ :: _, [] => rfl
  | x :: xs, y :: ys => by
    rw [List.map_cons, List.map_cons]
    unfold ltL
    by_cases e : x = y
    · subst e; rw [if_pos rfl, if_pos rfl, ltL_map hf h]
    · rw [if_neg e, if_neg fun z => e (hf _ _ z), h]
theorem sub_map {α β : Type} {f : α → β} {l : List α} : ∀ {r : List β}, (∀ k ∈ r, k ∈ l.map f) → ∃ s : List α, r = s.map f
  | [], _ => ⟨[], rfl⟩
  | k :: r, h => by
    obtain ⟨a, _, rfl⟩ := List.mem_map.mp (h k (.head _))
    obtain ⟨s, rfl⟩ := sub_map fun k hk => h k (.tail _ hk)
    exact ⟨a :: s, rfl⟩
theorem ltLD_keys {ks : List Key} (h : OneSort ks) {r t : List Key} (hr : ∀ k ∈ r, k ∈ ks) (ht : ∀ k ∈ t, k ∈ ks) (h0 : r ≠ []) : ltLD (r.map kD) (t.map kD) = some (ltL ltK r t) := by
  rcases h with ⟨is, rfl⟩ | ⟨ss, rfl⟩
  · obtain ⟨r, rfl⟩ := sub_map hr
    obtain ⟨t, rfl⟩ := sub_map ht
    rw [List.map_map, List.map_map, show (kD ∘ Sum.inl) = D.int from rfl]
    unfold ltLD
    rw [intsD_map, intsD_map, ltL_map (lt := ltI) (fun a b e => Sum.inl.inj e) fun a b => rfl]
  · obtain ⟨r, rfl⟩ := sub_map hr
    obtain ⟨t, rfl⟩ := sub_map ht
    rw [List.map_map, List.map_map, show (kD ∘ Sum.inr) = D.str from rfl]
    unfold ltLD
    have : intsD (r.map D.str) = none := by
      cases r with
      | nil => exact absurd rfl h0
      | cons x r => rfl
    rw [this, strsD_map, strsD_map, ltL_map (lt := ltS) (fun a b e => Sum.inr.inj e) fun a b => rfl]
end
end K66


set_option Elab.async false
set_option linter.all false
set_option maxRecDepth 100000
set_option maxHeartbeats 4000000
namespace K66
open PySem L2 Qd
local macro_rules | `(tactic| walk_at "rd") => `(tactic| simp only [qVar_z, qVar_s, qC, qSeq, qNext, qRet, qRetN, qIfS, qTest, qIs, qOp, qUn, qAnd, qOr, qNot, qAndV, qOrV, qNotV, qCB, qCons, qNil, okQ_some, okQ_none, qIf, qChain, qI, qIC, r1_rd, r2_rd, Qd.rLen, qLc, qIt, rAllQ, rAnyQ, rSumQ, rMinQ, rMaxQ, rAbsQ, rIntQ, newL_f, newL_t, Bool.false_eq_true, if_false, qInS, qEq, qNe, qIsN, qNotN, qDrop, if_true, qDcB, qFill, kkB, qDGet, kkK, qDcK, qFzD, qAsg, tset_nm, tset_tp, tsets_nil, tsets_nm, tsets_tp, wipe_nil, wipe_cons, List.set_cons_zero, List.set_cons_succ, qRaise, qFor, qRng1, qRng2, qTup, qLst, qPar, eqD_int, eqD_str, eqD_bl, itD_lst, itD_tup, itD_dic, lenD_lst, lenD_tup, lenD_dic, dicD_dic, lstD_lst, seqD_lst, seqD_tup, qSl, qoNone, qoSome, qRevL, qLrg1, qLrg2, qCX, qKw, qKwX, List.length_cons, List.length_nil, List.map_cons, List.map_nil, qAsgG, gTupQ, gConsQ, gSubT, gNilQ, qTGet, qDcT, kkT, qNewT, qNewK, List.length_map, Int.toNat_natCast, ditD_mut, qIx_tup, qIx_lst, keysT_2, Bool.or_true, Bool.true_or, Int.zero_add, isN_tup, isN_lst, isN_int, isN_dic, isN_non, at_zero, qMeth, qAddL, qMulL, rTupQ, qCBw, qLX, qLKw, qMet, pick_0, pick_10, qFz, qFzN, qDispF, qNewF, qDictF, qpCons, qpNil, qDispB, qDispT, keyPs, obD, qEqV, gSubQ, qNegI, qMets, at4_0, at4_1, at4_2, at4_3, ix4_1, ix4_2, ix4_3])
local macro_rules | `(tactic| walk_at "rs") => `(tactic| simp only [qVar_z, qVar_s, qC, qNext, qRet, qRetN, qIfS, qTest, qIs, qOp, qUn, qAnd, qOr, qNot, qAndV, qOrV, qNotV, qCB, qCons, qNil, okQ_some, okQ_none, qIf, qChain, qI, qIC, r1_rd, r2_rd, Qd.rLen, qLc, qIt, rAllQ, rAnyQ, rSumQ, rMinQ, rMaxQ, rAbsQ, rIntQ, newL_f, newL_t, Bool.false_eq_true, if_false, qInS, qEq, qNe, qIsN, qNotN, qDrop, if_true, qDcB, qFill, kkB, qDGet, kkK, qDcK, qFzD, qAsg, tset_nm, tset_tp, tsets_nil, tsets_nm, tsets_tp, wipe_nil, wipe_cons, List.set_cons_zero, List.set_cons_succ, qRaise, qFor, qRng1, qRng2, qTup, qLst, qPar, eqD_int, eqD_str, eqD_bl, itD_lst, itD_tup, itD_dic, lenD_lst, lenD_tup, lenD_dic, dicD_dic, lstD_lst, seqD_lst, seqD_tup, qSl, qoNone, qoSome, qRevL, qLrg1, qLrg2, qCX, qKw, qKwX, List.length_cons, List.length_nil, List.map_cons, List.map_nil, qAsgG, gTupQ, gConsQ, gSubT, gNilQ, qTGet, qDcT, kkT, qNewT, qNewK, List.length_map, Int.toNat_natCast, ditD_mut, qIx_tup, qIx_lst, keysT_2, Bool.or_true, Bool.true_or, Int.zero_add, isN_tup, isN_lst, isN_int, isN_dic, isN_non, at_zero, qMeth, qAddL, qMulL, rTupQ, qCBw, qLX, qLKw, qMet, pick_0, pick_10, qFz, qFzN, qDispF, qNewF, qDictF, qpCons, qpNil, qDispB, qDispT, keyPs, obD, qEqV, gSubQ, qNegI, qMets, at4_0, at4_1, at4_2, at4_3, ix4_1, ix4_2, ix4_3])
section
variable {P : Program} {w : World} {K : PySem.W.Frag} {mg : Str → Option Value} {base : Heap}
theorem kw_ord : KwOk (defArgs s_ordered_or_two) ["code"] ["code"] [0] := fun _ _ _ _ _ _ _ _ _ _ ws h => match ws, h with
  | _ :: _, _ => rfl
  | [], h => by cases h
abbrev kw_ordered_or_two_0 := @kw_ord
@[irreducible] def tMany : Nat := pMany + cMany + 1000
theorem t12 : 12 * tMany ≤ maxDraws := by unfold tMany cMany pMany wMany far maxDraws; exact Nat.le_of_ble_eq_true rfl
theorem tEq : tMany = pMany + cMany + 1000 := by unfold tMany; rfl
theorem numA {t j : Nat} (ht : t < 12) (hj : j ≤ 900) : t * tMany + j < maxDraws ∧ t * tMany + j + pMany ≤ maxDraws ∧ t * tMany + pMany + j + 100 ≤ maxDraws ∧ t * tMany + pMany + j + cMany ≤ maxDraws ∧ t * tMany + pMany + j + cMany ≤ (t + 1) * tMany ∧ t * tMany + pMany + j < maxDraws := by
  have h1 : (t + 1) * tMany ≤ 12 * tMany := Nat.mul_le_mul_right _ ht
  have h2 := t12
  have h3 := tEq
  rw [Nat.add_mul, Nat.one_mul] at h1 ⊢
  generalize tMany = m at *
  generalize pMany = p at *
  generalize cMany = c at *
  generalize maxDraws = d at *
  generalize t * m = q at *
  omega
theorem lam_ord {C C0 : Addr} (Z : Nv K mg) (E_BadCode : ErrC P w K mg base 1 "BadCode" C "code") (E_NotPrefix : Err0 K mg "NotPrefix" C0) {l : Lm} {p1 p2 p3 : Pos} (he : l.e = .Call (.Name "ordered_or_two" p1) [.Name "odd" p2] [] p3) (S : FnScope ["odd"] ["odd"] l.sc) (hb : l.Binds1 "odd")
    (hg : l.sc.names.lookup ("ordered_or_two" : Str) = some .globalImplicit) : LamD P w K mg base 7 l (r_ordered C C0) := by
  have G_ordered_or_two := d_ordered_or_two (P := P) (w := w) (base := base) Z E_BadCode E_NotPrefix
  refine ⟨⟨"odd", ["odd"], S, hb, fun f c A outer s H E tb x2 hr => ⟨qCX { tb := tb, xe := E, x2 := x2 } (r_ordered C C0) (qCons (qVar 0) qNil), ?_, fun ds A P h => ?_⟩⟩, by rintro ds A P x2 ⟨d, rfl, _⟩; rfl⟩
  · rw [he]
    have hv : Vis l.sc "odd" := by
      rcases S.par "odd" (.head _) with z | z
      · exact .inl z
      · exact .inr (.inl z)
    exact pq_fnX G_ordered_or_two hr pass_own (paq_cons (qv 0 rfl hv) paq_nil) hg
  · obtain ⟨d, rfl, h⟩ := h
    exact ⟨d, rfl, h⟩
theorem rSort_strs {m : Bool} {xs : List D} {ns : List Str} {A : MH} {P : KQ} (h : xs = ns.map .str) (hl : ns.length < 64) (k : newL m ((srtS ns).map .str) A P) : rSortQ m [.lst xs] A P := by
  subst h
  exact .inr ⟨ns, strsD_map ns, hl, k⟩
theorem ord_ok {C C0 : Addr} {kc lc : List Key} {Bc : Key → List Bool} {A : MH} {P : KQ} {x2 : XKQ} (hC : PreB kc Bc) (hl : kc.length < 64) (p : lc.Perm kc) (h : P (ordD (turnK (fun k => sw (Bc k)) (srtK kc))) A) : r_ordered C C0 [codB lc Bc] A P x2 := by
  have pk := srtK_perm hC.sy.one
  refine ⟨_, rfl, okQ_mk (keptC_tab A hC.any hl p) ?_⟩
  rw [if_neg (show ¬ isN (codB (srtK kc) Bc) = true from fun z => Bool.noConfusion (show false = true from z))]
  refine ⟨srtK kc, _, rfl, by rw [pk.length_eq]; exact hl, fun k hk => ?_, ?_⟩
  · have := (hC.sz k (pk.mem_iff.mp hk)).2
    rw [sw_len]; omega
  · rw [hC.none pk, if_neg (by decide)]
    exact h
theorem npx_ok {C C0 : Addr} {ko : List Key} {Bo : Key → List Bool} {A : MH} {P : KQ} {x2 : XKQ} (hO : AnyB ko Bo) (hl : ko.length < 64) (hp : isPre ko (fun k => sw (Bo k)) = false) (h : x2 C0 [] A) : r_ordered C C0 [codB ko Bo] A P x2 := by
  have pk := srtK_perm hO.sy.one
  refine ⟨_, rfl, okQ_mk (keptC_tab A hO hl (.refl _)) ?_⟩
  rw [if_neg (show ¬ isN (codB (srtK ko) Bo) = true from fun z => Bool.noConfusion (show false = true from z))]
  refine ⟨srtK ko, _, rfl, by rw [pk.length_eq]; exact hl, fun k hk => ?_, ?_⟩
  · have := (hO.sz k (pk.mem_iff.mp hk)).2
    rw [sw_len]; omega
  · rw [pre_two hp pk, if_pos rfl]
    exact h
theorem ord_pl (t : Option (Key × Key)) : plD (ordD t) = true ∧ dep (ordD t) ≤ 1 := by
  rcases t with _ | ⟨a, b⟩
  · exact ⟨rfl, by decide⟩
  · cases a <;> cases b <;> exact ⟨rfl, Nat.le_refl _⟩
theorem cod_pl (ks : List Key) (W : Key → Str) (h : ks.length ≤ 100000) : plD (codD ks W) = true ∧ dep (codD ks W) ≤ 3 := by
  have e1 : ∀ l : List Key, plKs (tabK l fun k => .str (W k)) = true := by
    intro l
    induction l with
    | nil => rfl
    | cons k l ih => show plKs ((k, D.str (W k)) :: tabK l fun k => .str (W k)) = true; rw [plKs, ih]; rfl
  have e2 : ∀ l : List Key, depK (tabK l fun k => .str (W k)) = 0 := by
    intro l
    induction l with
    | nil => rfl
    | cons k l ih => show depK ((k, D.str (W k)) :: tabK l fun k => .str (W k)) = 0; rw [depK, ih]; rfl
  refine ⟨?_, ?_⟩
  · rw [plD, e1, tabK_length, decide_eq_true h]; rfl
  · rw [dep, e2]; omega
/-! four codes -/
def bOf (l : List (Key × List Bool)) (k : Key) : List Bool := (getA l k).getD []
theorem ord_const {C C0 : Addr} {d : D} {lc : List Key} {Bc : Key → List Bool} {A : MH} {P : KQ} {x2 : XKQ} (hC : PreB lc Bc) (hl : lc.length < 64) (hs : srtK lc = lc) (e : d = codB lc Bc) {tt : Option (Key × Key)} (ht : turnK (fun k => sw (Bc k)) lc = tt) (h : P (ordD tt) A) : r_ordered C C0 [d] A P x2 := by
  subst e ht
  exact ord_ok hC hl (.refl _) (by rw [hs]; exact h)
theorem pre1 : PreB [.inr "a", .inr "b", .inr "c"] (bOf [(.inr "a", [true, false]), (.inr "b", [false]), (.inr "c", [true, true])]) :=
  ⟨⟨.inr ⟨["a", "b", "c"], rfl, by decide +kernel⟩, by decide +kernel, by decide⟩, by decide +kernel, by decide +kernel⟩
theorem pre2 : PreB [.inl 2, .inl 10] (bOf [(.inl 2, [true]), (.inl 10, [false, true])]) :=
  ⟨⟨.inl ⟨[2, 10], rfl, by decide +kernel⟩, by decide +kernel, by decide⟩, by decide +kernel, by decide +kernel⟩
theorem pre3 : PreB [.inl 5] (bOf [(.inl 5, [true])]) :=
  ⟨⟨.inl ⟨[5], rfl, by decide +kernel⟩, by decide +kernel, by decide⟩, by decide +kernel, by decide +kernel⟩
theorem pre4 : PreB [.inl 2, .inl 10] (bOf [(.inl 2, [false]), (.inl 10, [true])]) :=
  ⟨⟨.inl ⟨[2, 10], rfl, by decide +kernel⟩, by decide +kernel, by decide⟩, by decide +kernel, by decide +kernel⟩
theorem srt1 : srtK [.inr "a", .inr "b", .inr "c"] = [.inr "a", .inr "b", .inr "c"] := by
  have := srtK_strs (ss := ["a", "b", "c"]) (by decide)
  rw [srtS_id (by decide +kernel)] at this
  exact this
theorem srt2 : srtK [.inl 2, .inl 10] = [.inl 2, .inl 10] := by
  have := srtK_ints (is := [2, 10])
  rw [srtI_id (by decide)] at this
  exact this
theorem srt3 : srtK [.inl 5] = [.inl 5] := by
  have := srtK_ints (is := [5])
  rw [srtI_id (by decide)] at this
  exact this
theorem qStr_rd {g : Str → Str → Bool} {i j : Str} {A : MH} {P : KQ} : qStr g (.str i) (.str j) A P = P (.bl (g i j)) A := rfl
theorem turn_mem {W : Key → Str} {a b : Key} : ∀ {l : List Key}, turnK W l = some (a, b) → a ∈ l ∧ b ∈ l
  | [], h => by cases h
  | [_], h => by cases h
  | c :: d :: r, h => by
    unfold turnK at h
    split at h
    · cases h; exact ⟨.head _, .tail _ (.head _)⟩
    · obtain ⟨h1, h2⟩ := turn_mem h
      exact ⟨.tail _ h1, .tail _ h2⟩
def r_law : RNQ := fun ds A P => ∃ ns : List Int, ds = [.frl (ns.map .int)] ∧ ns.length ≤ 63 ∧ (∀ x ∈ ns, nb x.natAbs ≤ 1048576) ∧ ∀ A', P (.bl true) A'
theorem fn_law (Z : Nv K mg) {C C0 CS c Pl Pv : Addr} (E_BadCode : ErrC P w K mg base 1 "BadCode" C "code") (E_BadSymbols : ErrC P w K mg base 1 "BadSymbols" CS "symbols") (E_NotPrefix : Err0 K mg "NotPrefix" C0) (xf : XfC K C) (hno : PySem.W.findIn K (.ref C) "code" = some none) (XF : ExF K C C0)
    (hV : MkAt K mg base "_law_is_very" s__law_is_very Pv) (hne : Pl ≠ Pv) {f : Addr} {oc : Value} {od an : Option Addr} {osl : Array (Option Value)} {kV doc pm ct : Value} (lk : K.lookup f = some ⟨oc, od, .func (PySem.W.fnOf "law" "law" (defArgs s_law) (defBody s_law) (defScope s_law) .none kV doc pm an (.ref c) ct), osl⟩) (hcd : PySem.W.codeIn K (.ref c) "law" = true)
    (TBl : LamX.TabB base mg c Pl) : FnOk P w K mg base CX0 15 f (PySem.W.fnOf "law" "law" (defArgs s_law) (defBody s_law) (defScope s_law) .none kV doc pm an (.ref c) ct) ["script"] (liftSpT K (tbL Pl Pv) r_law) := by
  have S := sc_law
  refine def_okT lk hcd S (by rintro ds A P ⟨ns, rfl, _⟩; rfl) fun A outer s H E hr => ?_
  have G__law_stream := d__law_stream (P := P) (w := w) (base := base) Z
  have HR__law_stream := hr.mono (show 1 ≤ 14 by decide)
  have G__law_draw := d__law_draw (P := P) (w := w) (base := base) Z
  have HR__law_draw := hr.mono (show 1 ≤ 14 by decide)
  have G__law_pick := d__law_pick (P := P) (w := w) (base := base) Z
  have HR__law_pick := hr.mono (show 2 ≤ 14 by decide)
  have G__law_e_prefix := d__law_e_prefix (P := P) (w := w) (base := base) Z
  have HR__law_e_prefix := hr.mono (show 4 ≤ 14 by decide)
  have G__law_e_code := d__law_e_code (P := P) (w := w) (base := base) Z
  have HR__law_e_code := hr.mono (show 5 ≤ 14 by decide)
  have G__law_e_shuffled := d__law_e_shuffled (P := P) (w := w) (base := base) Z
  have HR__law_e_shuffled := hr.mono (show 3 ≤ 14 by decide)
  have G__law_e_is_prefix := d__law_e_is_prefix (P := P) (w := w) (base := base) Z
  have HR__law_e_is_prefix := hr.mono (show 1 ≤ 14 by decide)
  have G__law_e_odd_codes := d__law_e_odd_codes (P := P) (w := w) (base := base) Z
  have HR__law_e_odd_codes := hr.mono (show 1 ≤ 14 by decide)
  have G_ordered_or_two := d_ordered_or_two (P := P) (w := w) (base := base) Z E_BadCode E_NotPrefix
  have HR_ordered_or_two := hr.mono (show 7 ≤ 14 by decide)
  have G_written_bits := d_written_bits (P := P) (w := w) (base := base) Z E_BadCode E_BadSymbols
  have HR_written_bits := hr.mono (show 6 ≤ 14 by decide)
  have G__law_same := d__law_same (P := P) (w := w) (base := base) Z 12
  have HR__law_same := hr.mono (show 13 ≤ 14 by decide)
  have G__law_is_very := d__law_is_very (P := P) (w := w) (base := base) Z E_BadCode E_NotPrefix xf hno XF hV hne
  have HR__law_is_very := hr.mono (show 11 ≤ 14 by decide)
  have hul : ∀ p ∈ tbL Pl Pv, p.1 = Pl → p.2 = "law.<locals>.<lambda>" := fun p hp e => by
    rcases List.mem_cons.mp hp with h | h
    · rw [h]
    · rw [List.mem_singleton.mp h] at e; exact absurd e.symm hne
  obtain ⟨g, fdg, Fg, mgg⟩ := Z.f__law_met
  obtain ⟨ocg, odg, kVg, docg, pmg, ang, cdvg, ctg, oslg, rfl, lkg, hcg⟩ := Fg.ex
  have hbg := Fg.binds (ps := ["ask"]) (fun _ _ _ _ _ _ us hl => match us, hl with | [_], _ => rfl)
  refine ⟨_, (psq_cons (psq_set (i := 1) S.nd (pq_fn G__law_stream HR__law_stream (paq_cons (qv 0) paq_nil))) (psq_cons (psq_for PassesOwn.never rfl (piq_rng1 Z.b_range (paq_cons pq_int paq_nil)) (gq_nm 2 S.nd) (psq_cons (psq_set (i := 3) S.nd (pq_fn G__law_e_prefix HR__law_e_prefix (paq_cons (qv 1) (paq_cons (pq_addI pq_int (pq_fn G__law_draw HR__law_draw (paq_cons (qv 1) (paq_cons pq_int paq_nil)))) paq_nil)))) (psq_cons (psq_set (i := 4) S.nd (pq_bi (cq_sorted false rfl) Z.b_sorted (paq_cons (qv 3) paq_nil))) (psq_cons (psq_set (i := 5) S.nd (pq_fn G__law_draw HR__law_draw (paq_cons (qv 1) (paq_cons pq_int paq_nil)))) (psq_cons (psq_if (ptq_gtI (qv 5) pq_int) (psq_cons (psq_set (i := 6) S.nd (pq_bi (cq_sorted false rfl) Z.b_sorted (paq_cons (pq_lc false rfl S.nd (piq_it (qv 4)) (blkOk_by (N := ["script", "stream", "turn", "code", "symbols", "way", "words", "one", "at", "handed", "was", "due", "other", "k", "rows", "j", "place", "few", "bits", "row", "odd", "found"]) (sc := defScope s_law) (own := [("one", 7)]) (by decide +kernel)) (fun _ _ _ _ _ => (gq_nm 7 S.nd)) (fun _ _ _ _ _ => qts_nil) (fun _ _ _ _ _ => (pq_dget (hu_of hr) (qv 3) (qv 7) (fun _ _ => rfl)))) paq_nil))) (psq_cons (psq_set (i := 8) S.nd (pq_fn G__law_draw HR__law_draw (paq_cons (qv 1) (paq_cons (pq_bi cq_len Z.b_len (paq_cons (qv 6) paq_nil)) paq_nil)))) (psq_cons (psq_set (i := 6) S.nd (pq_if (PWQ.pt (pwq_or (ptq_gtI (qv 5) pq_int) (pwq_or1 (ptq_eq hr.units (qv 8) pq_int)))) (qv 6) (pq_addL false (pq_addL false (pq_slice false (qv 6) poq_none (poq_some (pq_subI (qv 8) pq_int))) (pq_lst false (paq_cons (pq_ix (qv 6) (qv 8)) (paq_cons (pq_ix (qv 6) (pq_subI (qv 8) pq_int)) paq_nil)))) (pq_slice false (qv 6) (poq_some (pq_addI (qv 8) pq_int)) poq_none)))) (psq_one (psq_set (i := 3) S.nd (pq_dictF (pq_bt (cq_dict rfl) Z.b_dict (paq_cons (pq_listZip false rfl rfl Z.b_list rfl Z.b_zip (paq_cons (qv 4) (paq_cons (qv 6) paq_nil))) paq_nil)))))))) psq_nil) (psq_cons (psq_set (i := 9) S.nd (pq_fn G__law_e_shuffled HR__law_e_shuffled (paq_cons (qv 1) (paq_cons (qv 3) paq_nil)))) (psq_cons (psq_par (i := 10) (j := 11) rfl S.nd (by decide) (paq_cons (pq_dictF (pq_bt (cq_dict rfl) Z.b_dict (paq_cons (qv 9) paq_nil))) (paq_cons (pq_tup (paq_cons pq_str paq_nil)) paq_nil))) (psq_cons (psq_for PassesOwn.never rfl (piq_zip Z.b_zip (paq_cons (pq_slice false (pq_revL false (qv 4)) (poq_some pq_int) poq_none) (paq_cons (pq_revL false (qv 4)) paq_nil))) (gq_tp rfl (gqs_cons (gq_nm 7 S.nd) (gqs_cons (gq_nm 12 S.nd) gqs_nil))) (psq_one (psq_set (i := 11) S.nd (pq_if (ptq_gtS (pq_dget (hu_of hr) (qv 3) (qv 7) (fun _ _ => rfl)) (pq_dget (hu_of hr) (qv 3) (qv 12) (fun _ _ => rfl))) (pq_tup (paq_cons pq_str (paq_cons (qv 7) (paq_cons (qv 12) paq_nil)))) (qv 11))))) (psq_cons (psq_if (ptq_not (ptq_val (pq_fn G__law_same HR__law_same (paq_cons (pq_lst false (paq_cons (pq_fnX G_ordered_or_two HR_ordered_or_two (pass_nox (CX := CX0) (fun _ _ z => z) rfl) (paq_cons (qv 9) paq_nil)) (paq_cons (pq_kwX (perm := [0]) G_ordered_or_two HR_ordered_or_two (pass_nox (CX := CX0) (fun _ _ z => z) rfl) (pkq_cons (pq_dictF (pq_bt (cq_dict rfl) Z.b_dict (paq_cons (qv 3) paq_nil))) pkq_nil) kw_ordered_or_two_0) (paq_cons (qv 9) paq_nil)))) (paq_cons (pq_lst false (paq_cons (qv 11) (paq_cons (qv 11) (paq_cons (qv 10) paq_nil)))) paq_nil))))) (psq_one (psq_ret pq_bl)) psq_nil) (psq_cons (psq_for PassesOwn.never rfl (piq_rng1 Z.b_range (paq_cons pq_int paq_nil)) (gq_nm 13 S.nd) (psq_cons (psq_setLc false (i := 14) rfl S.nd (piq_rng1 Z.b_range (paq_cons pq_int paq_nil)) (blkOk_by (N := ["script", "stream", "turn", "code", "symbols", "way", "words", "one", "at", "handed", "was", "due", "other", "k", "rows", "j", "place", "few", "bits", "row", "odd", "found"]) (sc := defScope s_law) (own := [("j", 15)]) (by decide +kernel)) (fun _ _ _ _ _ => (gq_nm 15 S.nd)) (fun _ _ _ _ _ => qts_nil) (fun _ _ _ _ _ => (pq_lc false rfl S.nd (piq_rng1 Z.b_range (paq_cons (pq_addI pq_int (pq_fn G__law_draw HR__law_draw (paq_cons (qv 1) (paq_cons pq_int paq_nil)))) paq_nil)) (blkOk_by (N := ["script", "stream", "turn", "code", "symbols", "way", "words", "one", "at", "handed", "was", "due", "other", "k", "rows", "j", "place", "few", "bits", "row", "odd", "found"]) (own := [("place", 16)]) (blkC_relabel (by decide +kernel))) (fun _ _ _ _ _ => (gq_nm 16 S.nd)) (fun _ _ _ _ _ => qts_nil) (fun _ _ _ _ _ => (pq_fn G__law_pick HR__law_pick (paq_cons (qv 1) (paq_cons (qv 4) paq_nil)))))) (sw_true rfl rfl rfl (by decide +kernel))) (psq_cons (psq_set (i := 17) S.nd (pq_bi (cq_min2 rfl) Z.b_min (paq_cons (pq_bi cq_len Z.b_len (paq_cons (pq_ix (qv 14) pq_int) paq_nil)) (paq_cons (pq_bi cq_len Z.b_len (paq_cons (pq_ix (qv 14) pq_int) paq_nil)) paq_nil)))) (psq_one (psq_if (PWQ.pt (pwq_and (ptq_eq hr.units (qv 11) (pq_tup (paq_cons pq_str paq_nil))) (pwq_and1 (ptq_ne hr.units (pq_slice false (pq_ix (qv 14) pq_int) poq_none (poq_some (qv 17))) (pq_slice false (pq_ix (qv 14) pq_int) poq_none (poq_some (qv 17))))))) (psq_cons (psq_setLc false (i := 18) rfl S.nd (piq_it (qv 14)) (blkOk_by (N := ["script", "stream", "turn", "code", "symbols", "way", "words", "one", "at", "handed", "was", "due", "other", "k", "rows", "j", "place", "few", "bits", "row", "odd", "found"]) (sc := defScope s_law) (own := [("row", 19)]) (by decide +kernel)) (fun _ _ _ _ _ => (gq_nm 19 S.nd)) (fun _ _ _ _ _ => qts_nil) (fun _ _ _ _ _ => (pq_fnX G_written_bits HR_written_bits (pass_nox (CX := CX0) (fun _ _ z => z) rfl) (paq_cons (pq_dictF (pq_bt (cq_dict rfl) Z.b_dict (paq_cons (qv 3) paq_nil))) (paq_cons (qv 19) paq_nil)))) (sw_true rfl rfl rfl (by decide +kernel))) (psq_one (psq_if (ptq_ne hr.units (pq_ltL hr.units0 (pq_ix (qv 14) pq_int) (pq_ix (qv 14) pq_int)) (pq_ltS (pq_ix (qv 18) pq_int) (pq_ix (qv 18) pq_int))) (psq_one (psq_ret pq_bl)) psq_nil))) psq_nil))))) (psq_cons (psq_set (i := 12) S.nd (pq_fn G__law_e_code HR__law_e_code (paq_cons (qv 1) (paq_cons pq_int paq_nil)))) (psq_one (psq_if (PWQ.pt (pwq_and (ptq_not (ptq_val (pq_fn G__law_e_is_prefix HR__law_e_is_prefix (paq_cons (qv 12) paq_nil)))) (pwq_and1 (ptq_not (ptq_val (pq_fn G__law_same HR__law_same (paq_cons (pq_lst false (paq_cons (pq_mets (ex := exK K) (cs := metC C C0) (told := "told") mgg Fg.kp lkg hcg hbg sc__law_met rfl (.inl rfl) (fun _ _ _ e => e) (mets_gives sc__law_met rfl (fun _ => rfl) (.plain rfl E_NotPrefix.gm rfl (.named rfl E_BadCode.gm rfl xf hno rfl rfl .nil))) TBl rfl (.head _) hul (hr.mono (show 9 ≤ 14 by decide)) (LamX.lamS_by (show LamX.lamSB (defScope s_law) _ = true by decide +kernel)) fun _ _ _ _ _ _ _ x2l hrl => (pq_fnXL (x2 := x2l) G_ordered_or_two hrl pass_lam (paq_cons (qv 12) paq_nil))) (paq_cons (pq_mets (ex := exK K) (cs := metC C C0) (told := "told") mgg Fg.kp lkg hcg hbg sc__law_met rfl (.inl rfl) (fun _ _ _ e => e) (mets_gives sc__law_met rfl (fun _ => rfl) (.plain rfl E_NotPrefix.gm rfl (.named rfl E_BadCode.gm rfl xf hno rfl rfl .nil))) TBl rfl (.head _) hul (hr.mono (show 9 ≤ 14 by decide)) (LamX.lamS_by (show LamX.lamSB (defScope s_law) _ = true by decide +kernel)) fun _ _ _ _ _ _ _ x2l hrl => (pq_kwXL (x2 := x2l) (perm := [0]) G_ordered_or_two hrl pass_lam (pkq_cons (qv 12) pkq_nil) kw_ordered_or_two_0)) paq_nil))) (paq_cons (pq_mulL false (pq_lst false (paq_cons (pq_tup (paq_cons pq_str (paq_cons pq_non paq_nil))) paq_nil)) pq_int) paq_nil)))))))) (psq_one (psq_ret pq_bl)) psq_nil))))))))))))) (psq_cons (psq_for PassesOwn.never rfl (piq_it (pq_fn0 G__law_e_odd_codes HR__law_e_odd_codes)) (gq_nm 20 S.nd) (psq_one (psq_if (ptq_not (ptq_val (pq_fn G__law_same HR__law_same (paq_cons (pq_mets (ex := exK K) (cs := metC C C0) (told := "told") mgg Fg.kp lkg hcg hbg sc__law_met rfl (.inl rfl) (fun _ _ _ e => e) (mets_gives sc__law_met rfl (fun _ => rfl) (.plain rfl E_NotPrefix.gm rfl (.named rfl E_BadCode.gm rfl xf hno rfl rfl .nil))) TBl rfl (.head _) hul (hr.mono (show 9 ≤ 14 by decide)) (LamX.lamS_by (show LamX.lamSB (defScope s_law) _ = true by decide +kernel)) fun _ _ _ _ _ _ _ x2l hrl => (pq_fnXL (x2 := x2l) G_ordered_or_two hrl pass_lam (paq_cons (qv 20) paq_nil))) (paq_cons (pq_tup (paq_cons pq_str (paq_cons (qv 20) paq_nil))) paq_nil))))) (psq_one (psq_ret pq_bl)) psq_nil))) (psq_cons (psq_set (i := 21) S.nd (pq_lst false (paq_cons (pq_fnX G_ordered_or_two HR_ordered_or_two (pass_nox (CX := CX0) (fun _ _ z => z) rfl) (paq_cons (pq_dispF (ppq_cons pq_str pq_str (ppq_cons pq_str pq_str (ppq_cons pq_str pq_str ppq_nil)))) paq_nil)) (paq_cons (pq_fnX G_ordered_or_two HR_ordered_or_two (pass_nox (CX := CX0) (fun _ _ z => z) rfl) (paq_cons (pq_dispF (ppq_cons pq_int pq_str (ppq_cons pq_int pq_str ppq_nil))) paq_nil)) (paq_cons (pq_fnX G_ordered_or_two HR_ordered_or_two (pass_nox (CX := CX0) (fun _ _ z => z) rfl) (paq_cons (pq_dispF (ppq_cons pq_int pq_str ppq_nil)) paq_nil)) (paq_cons (pq_fnX G_ordered_or_two HR_ordered_or_two (pass_nox (CX := CX0) (fun _ _ z => z) rfl) (paq_cons (pq_dispF (ppq_cons pq_int pq_str (ppq_cons pq_int pq_str ppq_nil))) paq_nil)) paq_nil)))))) (psq_one (psq_ret (pq_and (pq_fn G__law_same HR__law_same (paq_cons (qv 21) (paq_cons (pq_lst false (paq_cons (pq_tup (paq_cons pq_str (paq_cons pq_str (paq_cons pq_str paq_nil)))) (paq_cons (pq_tup (paq_cons pq_str (paq_cons pq_int (paq_cons pq_int paq_nil)))) (paq_cons (pq_tup (paq_cons pq_str paq_nil)) (paq_cons (pq_tup (paq_cons pq_str paq_nil)) paq_nil))))) paq_nil))) (pq_one (pq_fnT G__law_is_very HR__law_is_very (paq_cons pq_str (paq_cons (pq_lam TBl rfl (.head _) hul (by decide +kernel)) paq_nil))))))))))), ?_⟩
  rintro ds A P ⟨ns, rfl, hns, hnb, hP⟩
  rw [show startQ ["script", "stream", "turn", "code", "symbols", "way", "words", "one", "at", "handed", "was", "due", "other", "k", "rows", "j", "place", "few", "bits", "row", "odd", "found"] [D.frl (ns.map D.int)] = [some (D.frl (ns.map D.int)), none, none, none, none, none, none, none, none, none, none, none, none, none, none, none, none, none, none, none, none, none] from rfl]
  refine qSeq_st fun N1 n1 => ?_
  walk_at "rs"
  refine ⟨ns, rfl, hns, hnb, fun a b A1 ha hb hs1 ho1 => ?_⟩
  refine n1 _ _ (qSeq_st fun N2 n2 => ?_)
  walk_at "rs"
  refine ⟨⟨by decide, by decide⟩, ?_⟩
  refine runL_rng (fun t s' A' => ∃ x2 x3 x4 x5 x6 x7 x8 x9 x10 x11 x12 x13 x14 x15 x16 x17 x18 x19 x20 x21, s' = [some (.frl (ns.map .int)), some (.mut a), x2, x3, x4, x5, x6, x7, x8, x9, x10, x11, x12, x13, x14, x15, x16, x17, x18, x19, x20, x21] ∧ Strm A' a b (t * tMany)) ?_ ?_ ?_
  · exact ⟨_, _, _, _, _, _, _, _, _, _, _, _, _, _, _, _, _, _, _, _, rfl, hs1.up (Nat.zero_le _)⟩
  · rintro t s' A2 N ht ⟨x2, x3, x4, x5, x6, x7, x8, x9, x10, x11, x12, x13, x14, x15, x16, x17, x18, x19, x20, x21, rfl, hs⟩ next
    have ht : t < 12 := ht
    clear n2 n1
    walk_at "rs"
    refine qSeq_st fun N4 n4 => ?_
    walk_at "rs"
    refine ⟨a, b, _, 9, rfl, by decide, by decide, hs, (numA (j := 0) ht (by decide)).1, fun z A3 hz0 hz1 hs3 ho3 => ?_⟩
    obtain ⟨z, rfl⟩ := Int.eq_ofNat_of_zero_le hz0
    refine ⟨a, b, _, z + 1, by show [D.mut a, D.int (1 + (z : Int))] = _; rw [show (1 : Int) + (z : Int) = ((z + 1 : Nat) : Int) by omega], by omega, by omega, hs3, (numA (j := 1) ht (by decide)).2.1, fun ks B A4 hB hkl hs4 ho4 => ?_⟩
    have hs4 : Strm A4 a b (t * tMany + pMany + 1) := hs4.up (Nat.le_of_eq (Nat.add_right_comm ..))
    have hk9 : ks.length ≤ 9 := by omega
    refine n4 _ _ (qSeq_st fun N5 n5 => ?_)
    walk_at "rs"
    refine rSort_dic (sort_tab hB.sy.one hB.sy.2.2) (by rw [tabK_length]; omega) ?_
    refine n5 _ _ (qSeq_st fun N6 n6 => ?_)
    walk_at "rs"
    refine ⟨a, b, _, 4, rfl, by decide, by decide, hs4, (numA (j := 1) ht (by decide)).2.2.2.2.2, fun wy A5 hw0 hw1 hs5 ho5 => ?_⟩
    refine n6 _ _ (qSeq_st fun N7 n7 => ?_)
    walk_at "rs"
    have pk := srtK_perm hB.sy.one
    have hsl : (srtK ks).length = ks.length := pk.length_eq
    have cont : ∀ (ks2 : List Key) (B2 : Key → List Bool) (y6 y7 y8 : Option D) (A' : MH), PreB ks2 B2 → ks2.Perm ks → Strm A' a b (t * tMany + pMany + 3) → N7 [some (D.frl (ns.map .int)), some (D.mut a), some (D.int t), some (codB ks2 B2), some (D.lst ((srtK ks).map kD)), some (D.int wy), y6, y7, y8, x9, x10, x11, x12, x13, x14, x15, x16, x17, x18, x19, x20, x21] A' := by
      clear n4 n5 n6 hs hs3 hs4 hs5 ho3 ho4 ho5
      intro kc Bc y6 y7 y8 A6 hC hpc hs6
      have hcl : kc.length = ks.length := hpc.length_eq
      have esk : srtK kc = srtK ks := srtK_congr hB.sy.one hpc
      refine n7 _ _ (qSeq_st fun N8 n8 => ?_)
      walk_at "rs"
      refine ⟨a, b, _, kc, _, rfl, hC.sy.one, hC.sy.2.2, hC.sy.2.1, by omega, hs6, (numA (j := 3) ht (by decide)).2.2.1, fun ls A7 hls hs7 ho7 => ?_⟩
      refine n8 _ _ (qSeq_st fun N9 n9 => ?_)
      walk_at "rs"
      intro _ _
      refine ⟨by decide, ?_⟩
      refine n9 _ _ (qSeq_st fun N10 n10 => ?_)
      unfold qZip
      walk_at "rs"
      rw [show cutD ((srtK ks).map kD).reverse (some 1) none = ((srtK ks).map kD).reverse.drop 1 from cut_drop (b := 1), ← List.map_reverse]
      obtain ⟨b0, q0, hq0⟩ : ∃ b0 q0, (srtK ks).reverse = b0 :: q0 := by
        cases e : (srtK ks).reverse with
        | nil => have := congrArg List.length e; rw [List.length_reverse, hsl, List.length_nil] at this; have := List.length_pos_iff.mpr hB.sy.2.2; omega
        | cons b0 q0 => exact ⟨b0, q0, rfl⟩
      have hsk : q0.reverse ++ [b0] = srtK ks := by rw [← List.reverse_cons, ← hq0, List.reverse_reverse]
      have hmem : ∀ k ∈ srtK ks, k ∈ kc := fun k hk => hpc.mem_iff.mpr (pk.mem_iff.mp hk)
      rw [hq0]
      refine runL_inv (fun xs s' A' => ∃ q b r z7 z12, xs = pairL (q.map kD) ((b :: q).map kD) ∧ q.reverse ++ b :: r = srtK ks ∧ s' = [some (D.frl (ns.map .int)), some (D.mut a), some (D.int t), some (codB kc Bc), some (D.lst ((srtK ks).map kD)), some (D.int wy), y6, z7, y8, some (codB ls Bc), some (codB ls Bc), some (ordD (turnK (fun k => sw (Bc k)) (b :: r))), z12, x13, x14, x15, x16, x17, x18, x19, x20, x21] ∧ A' = A7) ?_ ?_ _ _ _ ⟨q0, b0, [], _, _, rfl, hsk, rfl, rfl⟩
      · rintro x xs s' A' M ⟨q, b1, r, z7, z12, el, hr, rfl, rfl⟩ nxt
        cases q with
        | nil => cases el
        | cons c1 q =>
          obtain ⟨e1, e2⟩ := List.cons.inj (show x :: xs = .tup [kD c1, kD b1] :: pairL (q.map kD) ((c1 :: q).map kD) from el)
          subst e1 e2
          rw [List.reverse_cons, List.append_assoc] at hr
          have hr : q.reverse ++ c1 :: b1 :: r = srtK ks := hr
          have hc1 : c1 ∈ kc := hmem _ (by rw [← hr]; simp)
          have hb1 : b1 ∈ kc := hmem _ (by rw [← hr]; simp)
          walk_at "rs"
          simp only [keyD_k, okQ_some, getA_tabK (v := fun k => D.str (sw (Bc k))) hc1, getA_tabK (v := fun k => D.str (sw (Bc k))) hb1]
          show if gtS (sw (Bc c1)) (sw (Bc b1)) = true then _ else _
          have et : turnK (fun k => sw (Bc k)) (c1 :: b1 :: r) = if gtS (sw (Bc c1)) (sw (Bc b1)) then some (c1, b1) else turnK (fun k => sw (Bc k)) (b1 :: r) := rfl
          cases hp : gtS (sw (Bc c1)) (sw (Bc b1)) with
          | true =>
            rw [if_pos rfl]
            rw [hp, if_pos rfl] at et
            exact ⟨by decide, nxt _ _ ⟨q, c1, b1 :: r, _, _, rfl, hr, by rw [et]; rfl, rfl⟩⟩
          | false =>
            rw [if_neg (by decide)]
            rw [hp, if_neg (by decide)] at et
            exact nxt _ _ ⟨q, c1, b1 :: r, _, _, rfl, hr, by rw [et], rfl⟩
      rintro s' A' ⟨q, b1, r, z7, z12, el, hr, rfl, rfl⟩
      cases q with
      | cons c1 q => cases el
      | nil =>
      have hr : b1 :: r = srtK ks := hr
      rw [hr]
      obtain ⟨tn, htn⟩ : ∃ tn, tn = turnK (fun k => sw (Bc k)) (srtK ks) := ⟨_, rfl⟩
      rw [← htn]
      refine n10 _ _ (qSeq_st fun N11 n11 => ?_)
      walk_at "rs"
      refine ord_ok hC (by omega) hls ?_
      intro _ _
      refine ord_ok hC (by omega) (.refl _) ?_
      rw [esk, ← htn]
      have p1 := ord_pl tn
      have p2 : plD (codB ls Bc) = true ∧ dep (codB ls Bc) ≤ 3 := cod_pl ls (fun k => sw (Bc k)) (by rw [hls.length_eq]; omega)
      refine ⟨by decide, by decide, _, rfl, ?_, ?_, ?_⟩
      · rw [plD, plDs, plDs, plDs, plDs, p1.1, p2.1]; rfl
      · rw [dep, deps, deps, deps, deps]; omega
      show if (!true) = true then _ else _
      rw [if_neg (by decide)]
      refine n11 _ _ (qSeq_st fun N12 n12 => ?_)
      walk_at "rs"
      refine ⟨⟨by decide, by decide⟩, ?_⟩
      have hs7 : Strm A' a b (t * tMany + pMany + 103) := hs7.up (by omega)
      refine runL_rng (fun k s' A' => ∃ z13 z14 z15 z16 z17 z18 z19, s' = [some (D.frl (ns.map .int)), some (D.mut a), some (D.int t), some (codB kc Bc), some (D.lst ((srtK ks).map kD)), some (D.int wy), y6, z7, y8, some (codB ls Bc), some (codB ls Bc), some (ordD tn), z12, z13, z14, z15, z16, z17, z18, z19, x20, x21] ∧ Strm A' a b (t * tMany + pMany + 103 + 20 * k)) ?_ ?_ ?_
      · exact ⟨_, _, _, _, _, _, _, rfl, hs7⟩
      · rintro k s' A8 N13 hk4 ⟨z13, z14, z15, z16, z17, z18, z19, rfl, hs8⟩ nxt
        have hk4 : k < 4 := hk4
        walk_at "rs"
        refine qSeq_st fun M1 m1 => ?_
        walk_at "rs"
        refine ⟨⟨by decide, by decide⟩, ?_⟩
        refine compL_st (fun i A' => Strm A' a b (t * tMany + pMany + 103 + 20 * k + 10 * i)) (fun _ _ y => ∃ r : List Key, y = .lst (r.map kD) ∧ 1 ≤ r.length ∧ r.length ≤ 6 ∧ ∀ k ∈ r, k ∈ srtK ks) (by decide) hs8 ?_ ?_
        · rintro i x B1 hx hsB Q hQ
          have hi2 : i < 2 := (rngD_get hx).1
          walk_at "rs"
          have nm := (numA (j := 103 + 20 * k + 10 * i) ht (by omega)).2.2.2.2.2
          refine ⟨a, b, _, 6, rfl, by decide, by decide, hsB, by omega, fun z B2 hz0 hz1 hsB2 hoB2 => ?_⟩
          obtain ⟨z, rfl⟩ := Int.eq_ofNat_of_zero_le hz0
          refine ⟨⟨by show -1000000 ≤ 1 + (z : Int); omega, by show 1 + (z : Int) ≤ 1000000; omega⟩, ?_⟩
          rw [show ((1 : Int) + (z : Int)).toNat = z + 1 by omega]
          refine compL_st (fun j A' => Strm A' a b (t * tMany + pMany + 103 + 20 * k + 10 * i + 1 + j)) (fun _ _ y => ∃ k ∈ srtK ks, y = kD k) (by rw [rngD_len]; omega) hsB2 ?_ ?_
          · rintro j x B3 hx hsB3 Q2 hQ2
            have hj6 : j < z + 1 := (rngD_get hx).1
            walk_at "rs"
            have nm2 := (numA (j := 103 + 20 * k + 10 * i + 1 + j) ht (by omega)).2.2.2.2.2
            refine ⟨a, b, _, _, _, rfl, .inl rfl, by rw [List.length_map]; omega, by rw [List.length_map]; omega, hsB3, by omega, fun v y B4 hv hsB4 hoB4 => hQ2 y B4 ?_ hsB4⟩
            rw [List.getElem?_map] at hv
            cases e : (srtK ks)[v]? with
            | none => rw [e] at hv; cases hv
            | some kk => rw [e] at hv; cases hv; exact ⟨kk, List.mem_of_getElem? e, rfl⟩
          · intro out B3 hol hoR hsB3
            rw [rngD_len] at hol hsB3
            obtain ⟨r, hr1, hr2⟩ := choose_list out (fun _ (kk : Key) y => kk ∈ srtK ks ∧ y = kD kk) fun i y hy => by
              have hi : i < z + 1 := by rw [← hol]; exact (List.getElem?_eq_some_iff.mp hy).1
              obtain ⟨kk, h1, h2⟩ := hoR i _ y (rngD_at hi) hy
              exact ⟨kk, h1, h2⟩
            have er : out = r.map kD := by
              apply List.ext_getElem?
              intro i
              rw [List.getElem?_map]
              cases e1 : out[i]? with
              | none => rw [List.getElem?_eq_none_iff] at e1; rw [List.getElem?_eq_none (by omega)]; rfl
              | some y =>
                have hi := (List.getElem?_eq_some_iff.mp e1).1
                have e2 : r[i]? = some (r[i]'(by omega)) := List.getElem?_eq_getElem (by omega)
                rw [e2, (hr2 i _ y e2 e1).2]; rfl
            refine hQ _ B3 ⟨r, by rw [er], by omega, by omega, fun kk hkk => ?_⟩ (hsB3.up (by omega))
            obtain ⟨i, hi⟩ := List.getElem?_of_mem hkk
            have hio : i < out.length := by have := (List.getElem?_eq_some_iff.mp hi).1; omega
            exact (hr2 i _ _ hi (List.getElem?_eq_getElem hio)).1
        · intro out B1 hol hoR hsB1
          have hol : out.length = 2 := hol
          have hsB1 : Strm B1 a b (t * tMany + pMany + 103 + 20 * k + 20) := hsB1
          obtain ⟨d0, d1, rfl⟩ : ∃ d0 d1, out = [d0, d1] := by
            match out, hol with
            | [d0, d1], _ => exact ⟨d0, d1, rfl⟩
          obtain ⟨r0, rfl, hl0, hm0, hk0⟩ := hoR 0 _ _ (rngD_at (by decide)) rfl
          obtain ⟨r1, rfl, hl1, hm1, hk1⟩ := hoR 1 _ _ (rngD_at (by decide)) rfl
          refine m1 _ _ (qSeq_st fun M2 m2 => ?_)
          walk_at "rs"
          have at1 : ∀ {x y : D}, L2.atI [x, y] 1 = some y := fun {x y} => rfl
          rw [at1, okQ_some, lenD_lst, okQ_some, List.length_map]
          have efew : (if (r1.length : Int) < (r0.length : Int) then (r1.length : Int) else (r0.length : Int)) = ((min r0.length r1.length : Nat) : Int) := by split <;> omega
          show M2 [_, _, _, _, _, _, _, _, _, _, _, _, _, _, _, _, _, some (D.int (if (r1.length : Int) < (r0.length : Int) then (r1.length : Int) else (r0.length : Int))), _, _, _, _] B1
          rw [efew]
          refine m2 _ _ ?_
          walk_at "rs"
          have done : ∀ z18 z19, N13 [some (D.frl (ns.map .int)), some (D.mut a), some (D.int t), some (codB kc Bc), some (D.lst ((srtK ks).map kD)), some (D.int wy), y6, z7, y8, some (codB ls Bc), some (codB ls Bc), some (ordD tn), z12, some (D.int k), some (D.lst [D.lst (r0.map kD), D.lst (r1.map kD)]), z15, z16, some (D.int ((min r0.length r1.length : Nat) : Int)), z18, z19, x20, x21] B1 :=
            fun z18 z19 => nxt _ _ ⟨_, _, _, _, _, _, _, rfl, hsB1⟩
          have okk := okK_sym hB.sy
          have mk : ∀ k ∈ srtK ks, k ∈ ks := fun k hk => pk.mem_iff.mp hk
          refine ⟨by decide, ?_⟩
          rw [eqD_ord fun p q e => by
            obtain ⟨h1, h2⟩ := turn_mem (htn.symm.trans e)
            exact ⟨okk p (mk p h1), okk q (mk q h2)⟩, okQ_some]
          cases hcn : decide (tn = none) with
          | false => rw [if_neg (by decide)]; exact done _ _
          | true =>
          rw [if_pos rfl, at1, okQ_some]
          show okQ (eqD (D.lst (cutD (r0.map kD) none (some ((min r0.length r1.length : Nat) : Int)))) (D.lst (cutD (r1.map kD) none (some ((min r0.length r1.length : Nat) : Int))))) _
          rw [cut_take, cut_take, ← List.map_take, ← List.map_take, eqD_keys (fun k hk => okk k (mk k (hk0 k (List.mem_of_mem_take hk)))) (fun k hk => okk k (mk k (hk1 k (List.mem_of_mem_take hk)))), okQ_some]
          by_cases hdf : r0.take (min r0.length r1.length) = r1.take (min r0.length r1.length)
          · rw [decide_eq_true hdf, if_neg (by decide)]; exact done _ _
          rw [decide_eq_false hdf, if_pos (by decide)]
          have htn0 : turnK (fun k => sw (Bc k)) (srtK kc) = none := by rw [esk, ← htn]; exact of_decide_eq_true hcn
          refine qSeq_st fun M3 m3 => ?_
          walk_at "rs"
          have mc : ∀ k ∈ srtK ks, k ∈ kc := hmem
          refine compL_of (fun r : List Key => D.lst (r.map kD)) (fun r => .str (sw (r.map Bc).flatten)) [r0, r1] (Nat.le_of_ble_eq_true rfl) (fun r hr Q hQ => ?_) ?_
          · have hrl : r.length ≤ 6 ∧ ∀ k ∈ r, k ∈ srtK ks := by
              rcases List.mem_cons.mp hr with e | e
              · rw [e]; exact ⟨hm0, hk0⟩
              · rw [List.mem_singleton.mp e]; exact ⟨hm1, hk1⟩
            walk_at "rs"
            intro _ _
            refine ⟨_, srtK kc, fun k => sw (Bc k), r, rfl, keptC_tab B1 hC.any (by omega) (.refl _), by omega, fun k hk => ⟨by rw [esk]; exact hrl.2 k hk, sym_one B1 hB.sy k (mk k (hrl.2 k hk)), ?_⟩, ?_⟩
            · have := (hC.sz k (mc k (hrl.2 k hk))).2
              rw [sw_len]; omega
            · rw [show (r.map fun k => sw (Bc k)) = (r.map Bc).map sw by rw [List.map_map]; rfl, join_sw]
              exact hQ
          refine m3 _ _ ?_
          walk_at "rs"
          rw [at1, okQ_some]
          show okQ (ltLD (r0.map kD) (r1.map kD)) _
          rw [ltLD_keys hB.sy.one (fun k hk => mk k (hk0 k hk)) (fun k hk => mk k (hk1 k hk)) (fun z => by rw [z] at hl0; cases hl0), okQ_some]
          simp only [at1, okQ_some]
          simp only [qStr_rd, eqD_bl, okQ_some]
          rw [rows_alike hC htn0 (fun k hk => mc k (hk0 k hk)) (fun k hk => mc k (hk1 k hk)) hdf, decide_eq_true rfl, if_neg (by decide)]
          exact done _ _
      rintro s' A8 ⟨z13, z14, z15, z16, z17, z18, z19, rfl, hs8⟩
      have hs8 : Strm A8 a b (t * tMany + pMany + 183) := hs8
      refine n12 _ _ (qSeq_st fun N13 n13 => ?_)
      walk_at "rs"
      refine ⟨a, b, _, 6, rfl, by decide, by decide, hs8, (numA (j := 183) ht (by decide)).2.2.2.1, fun ko Bo A9 hO hol hs9 ho9 => ?_⟩
      refine n13 _ _ ?_
      walk_at "rs"
      have pko := srtK_perm hO.sy.one
      have fin : ∀ z12, N [some (D.frl (ns.map .int)), some (D.mut a), some (D.int t), some (codB kc Bc), some (D.lst ((srtK ks).map kD)), some (D.int wy), y6, z7, y8, some (codB ls Bc), some (codB ls Bc), some (ordD tn), z12, z13, z14, z15, z16, z17, z18, z19, x20, x21] A9 :=
        fun z12 => next _ _ ⟨_, _, _, _, _, _, _, _, _, _, _, _, _, _, _, _, _, _, _, _, rfl, hs9.up (numA (j := 183) ht (by decide)).2.2.2.2.1⟩
      refine ⟨ko, _, rfl, by omega, fun k hk => by have := (hO.sz k hk).2; rw [sw_len]; omega, ?_⟩
      cases hip : isPre ko fun k => sw (Bo k) with
      | true =>
        show if (!true) = true then _ else _
        rw [if_neg (by decide)]
        exact fin _
      | false =>
        show if (!false) = true then _ else _
        rw [if_pos (by decide)]
        refine npx_ok hO (by omega) hip (met_zero XF ?_)
        refine npx_ok hO (by omega) hip (met_zero XF ?_)
        refine ⟨by decide, by decide, by decide, by decide, by decide, by decide, _, rfl, by decide, by decide, ?_⟩
        show if (!true) = true then _ else _
        rw [if_neg (by decide)]
        exact fin _
    by_cases hw : 0 < wy
    case neg =>
      rw [decide_eq_false hw, if_neg (by decide)]
      exact cont ks B _ _ _ A5 hB (.refl _) (hs5.up (by omega))
    rw [decide_eq_true hw, if_pos rfl]
    refine qSeq_st fun M1 m1 => ?_
    walk_at "rs"
    refine compL_of kD (fun k => .str (sw (B k))) (srtK ks) (by omega) (fun k hk Q hQ => ?_) ?_
    · walk_at "rs"
      rw [keyD_k, okQ_some, getA_tabK (v := fun k => D.str (sw (B k))) (pk.mem_iff.mp hk)]
      exact hQ
    refine rSort_strs (ns := (srtK ks).map fun k => sw (B k)) (by rw [List.map_map]; rfl) (by rw [List.length_map]; omega) ?_
    obtain ⟨bs, hbs, hbp⟩ := perm_map (f := sw) (srtS_perm ((srtK ks).map fun k => sw (B k))) ((srtK ks).map B) (by rw [List.map_map]; rfl)
    rw [hbs, List.map_map, show (bs.map (D.str ∘ sw)) = wD bs from rfl]
    have hbl : bs.length = ks.length := by rw [hbp.length_eq, List.length_map, hsl]
    refine m1 _ _ (qSeq_st fun M2 m2 => ?_)
    walk_at "rs"
    have hk0 : 0 < ks.length := List.length_pos_iff.mpr hB.sy.2.2
    rw [wD_len]
    refine ⟨a, b, _, _, rfl, by omega, by omega, hs5, (numA (j := 2) ht (by decide)).2.2.2.2.2, fun i A6 hi0 hi1 hs6 ho6 => ?_⟩
    obtain ⟨i, rfl⟩ := Int.eq_ofNat_of_zero_le hi0
    have hib : i < bs.length := by omega
    refine m2 _ _ (qSeq_st fun M3 m3 => ?_)
    walk_at "rs"
    have put : ∀ bs2 : List (List Bool), bs2.Perm bs → M3 [some (D.frl (ns.map .int)), some (D.mut a), some (D.int t), some (codB ks B), some (D.lst ((srtK ks).map kD)), some (D.int wy), some (D.lst (wD bs2)), x7, some (D.int i), x9, x10, x11, x12, x13, x14, x15, x16, x17, x18, x19, x20, x21] A6 := by
      intro bs2 hp2
      refine m3 _ _ ?_
      walk_at "rs"
      obtain ⟨B2, hB2⟩ := fun_of (srtK ks) bs2 (pk.nodup_iff.mpr hB.sy.2.1) (by rw [hp2.length_eq, hbl, hsl])
      have e1 : pairL ((srtK ks).map kD) (wD bs2) = (srtK ks).map fun k => .tup [kD k, .str (sw (B2 k))] := by
        rw [hB2]
        unfold pairL wD
        rw [List.map_map, List.zip_map', List.map_map]
        rfl
      unfold qListZip
      walk_at "rs"
      rw [e1]
      simp only [dicD, lstD_lst, Option.bind_some, pairsD_tab (v := fun k => D.str (sw (B2 k))), okQ_some]
      rw [mergeA_tabK (pk.nodup_iff.mpr hB.sy.2.1)]
      have hpB : ((srtK ks).map B2).Perm (ks.map B) := by rw [← hB2]; exact hp2.trans (hbp.trans (pk.map B))
      refine fun _ _ => cont (srtK ks) B2 _ _ _ A6 ⟨hB.sy.perm pk, fun x hx => ?_, ?_⟩ pk (hs6.up (by omega))
      · have : B2 x ∈ ks.map B := hpB.mem_iff.mp (List.mem_map_of_mem hx)
        obtain ⟨y, hy, e⟩ := List.mem_map.mp this
        rw [← e]; exact hB.sz y hy
      · have h1 : (ks.map B).Pairwise Apart := List.pairwise_map.mpr hB.ap
        exact List.pairwise_map.mp (hpB.symm.pairwise h1 fun {x y} z => apart_comm z)
    by_cases h1w : 1 < wy
    · rw [decide_eq_true h1w, if_pos rfl]; exact put bs (.refl _)
    rw [decide_eq_false h1w, if_neg (by decide)]
    by_cases hi00 : (i : Int) = 0
    · rw [decide_eq_true hi00, if_pos rfl]; exact put bs (.refl _)
    rw [decide_eq_false hi00, if_neg (by decide)]
    obtain ⟨j, rfl⟩ : ∃ j, i = j + 1 := ⟨i - 1, by omega⟩
    have ej : ((j + 1 : Nat) : Int) - 1 = (j : Int) := by omega
    have ej2 : ((j + 1 : Nat) : Int) + 1 = ((j + 2 : Nat) : Int) := by omega
    rw [ej, ej2, at_nat, at_nat, wD_get, wD_get, List.getElem?_eq_getElem (show j + 1 < bs.length from hib), List.getElem?_eq_getElem (show j < bs.length by omega)]
    have lenw : ∀ xs : List (List Bool), (wD xs).length = xs.length := wD_len
    rw [show cutD (wD bs) none (some (j : Int)) = wD (bs.take j) by rw [cut_take]; exact List.map_take.symm, show cutD (wD bs) (some ((j + 2 : Nat) : Int)) none = wD (bs.drop (j + 2)) by rw [cut_drop]; exact List.map_drop.symm]
    have e2 : wD (bs.take j) ++ [D.str (sw bs[j + 1]), D.str (sw bs[j])] ++ wD (bs.drop (j + 2)) = wD (bs.take j ++ [bs[j + 1], bs[j]] ++ bs.drop (j + 2)) := by
      unfold wD
      rw [List.map_append, List.map_append]; rfl
    refine ⟨by decide, ?_, ?_, ?_⟩
    · rw [lenw, List.length_take]; omega
    · rw [List.length_append, lenw, lenw, List.length_take, List.length_drop]; show _ + 2 + _ ≤ _; omega
    · show M3 [_, _, _, _, _, _, some (.lst (wD (bs.take j) ++ [D.str (sw bs[j + 1]), D.str (sw bs[j])] ++ wD (bs.drop (j + 2)))), _, _, _, _, _, _, _, _, _, _, _, _, _, _, _] A6
      rw [e2]
      refine put _ ?_
      have e3 : bs = bs.take j ++ ([bs[j], bs[j + 1]] ++ bs.drop (j + 2)) := by
        rw [List.cons_append, List.cons_append, List.nil_append, List.getElem_cons_drop, List.getElem_cons_drop, List.take_append_drop]
      rw [List.append_assoc]
      conv => rhs; rw [e3]
      exact (List.Perm.swap _ _ _).append_left _ |>.trans (.refl _)
  · rintro s' A2 ⟨x2, x3, x4, x5, x6, x7, x8, x9, x10, x11, x12, x13, x14, x15, x16, x17, x18, x19, x20, x21, rfl, hs⟩
    refine n2 _ _ (qSeq_st fun N3 n3 => ?_)
    walk_at "rs"
    refine ⟨rfl, ?_⟩
    simp only [itD_lst, okQ_some]
    refine runL_inv (fun xs s' A' => (∀ x ∈ xs, x ∈ oddC) ∧ ∃ z20, s' = [some (D.frl (ns.map .int)), some (D.mut a), x2, x3, x4, x5, x6, x7, x8, x9, x10, x11, x12, x13, x14, x15, x16, x17, x18, x19, z20, x21]) ?_ ?_ _ _ _ ⟨fun x hx => hx, _, rfl⟩
    · rintro x xs s' A' M ⟨hm, z20, rfl⟩ nxt
      have hx := hm x (.head _)
      have hpx := oddC_pl x hx
      walk_at "rs"
      refine ⟨x, rfl, okQ_mk (oddC_kept A' x hx) ?_⟩
      rw [if_pos (show isN D.non = true from rfl)]
      refine met_code XF ⟨by decide, _, rfl, ?_, ?_, ?_⟩
      · rw [plD, plDs, plDs, plDs, hpx.1]; rfl
      · have := hpx.2
        rw [dep, deps, deps, deps, show dep (D.str "code") = 0 from rfl]; omega
      show if (!true) = true then _ else _
      rw [if_neg (by decide)]
      exact nxt _ _ ⟨fun y hy => hm y (.tail _ hy), _, rfl⟩
    · rintro s' A' ⟨_, z20, rfl⟩
      refine n3 _ _ (qSeq_st fun N4 n4 => ?_)
      walk_at "rs"
      simp only [keyD, okQ_some]
      refine ⟨by decide, fun _ _ => ord_const (tt := some (.inr "a", .inr "b")) pre1 (by decide) srt1 (by rfl) (by decide +kernel) ?_⟩
      refine ⟨by decide, fun _ _ => ord_const (tt := some (.inl 2, .inl 10)) pre2 (by decide) srt2 (by rfl) (by decide +kernel) ?_⟩
      refine ⟨by decide, fun _ _ => ord_const (tt := none) pre3 (by decide) srt3 (by rfl) (by decide +kernel) ?_⟩
      refine ⟨by decide, fun _ _ => ord_const (tt := none) pre4 (by decide) srt2 (by rfl) (by decide +kernel) ?_⟩
      refine ⟨by decide, n4 _ _ ?_⟩
      walk_at "rs"
      refine ⟨by decide, by decide, by decide, by decide, by decide, _, rfl, by decide, by decide, ?_⟩
      refine ⟨_, _, rfl, lam_ord Z E_BadCode E_NotPrefix rfl ⟨rfl, rfl, rfl, by decide +kernel, rfl, by decide +kernel, by decide +kernel⟩ (fun _ _ _ _ => rfl) rfl, fun q A2 x2 Q2 hq hx2 => ?_, hP⟩
      refine ⟨_, rfl, okQ_mk (z := .non) ?_ ?_⟩
      · unfold f_keptC
        rw [show tyQ A2 (.mut q) = some .lst by show (match A2 q with | some (.lst _) => some Ty.lst | some (.dic _) => some Ty.dic | some (.dit _) => some Ty.dic | _ => none) = _; rw [hq]]
        rfl
      · rw [if_pos (show isN D.non = true from rfl)]
        exact hx2
end
end K66


set_option Elab.async false
set_option linter.all false
set_option maxRecDepth 100000
set_option maxHeartbeats 4000000
namespace K66
open PySem L2 Qd
local macro_rules | `(tactic| walk_at "rd") => `(tactic| simp only [qVar_z, qVar_s, qC, qSeq, qNext, qRet, qRetN, qIfS, qTest, qIs, qOp, qUn, qAnd, qOr, qNot, qAndV, qOrV, qNotV, qCB, qCons, qNil, okQ_some, okQ_none, qIf, qChain, qI, qIC, r1_rd, r2_rd, Qd.rLen, qLc, qIt, rAllQ, rAnyQ, rSumQ, rMinQ, rMaxQ, rAbsQ, rIntQ, newL_f, newL_t, Bool.false_eq_true, if_false, qInS, qEq, qNe, qIsN, qNotN, qDrop, if_true, qDcB, qFill, kkB, qDGet, kkK, qDcK, qFzD, qAsg, tset_nm, tset_tp, tsets_nil, tsets_nm, tsets_tp, wipe_nil, wipe_cons, List.set_cons_zero, List.set_cons_succ, qRaise, qFor, qRng1, qRng2, qTup, qLst, qPar, eqD_int, eqD_str, eqD_bl, itD_lst, itD_tup, itD_dic, lenD_lst, lenD_tup, lenD_dic, dicD_dic, lstD_lst, seqD_lst, seqD_tup, qSl, qoNone, qoSome, qRevL, qLrg1, qLrg2, qCX, qKw, qKwX, List.length_cons, List.length_nil, List.map_cons, List.map_nil, qAsgG, gTupQ, gConsQ, gSubT, gNilQ, qTGet, qDcT, kkT, qNewT, qNewK, List.length_map, Int.toNat_natCast, ditD_mut, qIx_tup, qIx_lst, keysT_2, Bool.or_true, Bool.true_or, Int.zero_add, isN_tup, isN_lst, isN_int, isN_dic, isN_non, at_zero, qMeth, qAddL, qMulL, rTupQ, qCBw, qLX, qLKw, qMet, pick_0, pick_10, qFz, qFzN, qDispF, qNewF, qDictF, qpCons, qpNil, qDispB, qDispT, keyPs, obD, qEqV, gSubQ, qNegI, qMets, at4_0, at4_1, at4_2, at4_3, ix4_1, ix4_2, ix4_3])
local macro_rules | `(tactic| walk_at "rs") => `(tactic| simp only [qVar_z, qVar_s, qC, qNext, qRet, qRetN, qIfS, qTest, qIs, qOp, qUn, qAnd, qOr, qNot, qAndV, qOrV, qNotV, qCB, qCons, qNil, okQ_some, okQ_none, qIf, qChain, qI, qIC, r1_rd, r2_rd, Qd.rLen, qLc, qIt, rAllQ, rAnyQ, rSumQ, rMinQ, rMaxQ, rAbsQ, rIntQ, newL_f, newL_t, Bool.false_eq_true, if_false, qInS, qEq, qNe, qIsN, qNotN, qDrop, if_true, qDcB, qFill, kkB, qDGet, kkK, qDcK, qFzD, qAsg, tset_nm, tset_tp, tsets_nil, tsets_nm, tsets_tp, wipe_nil, wipe_cons, List.set_cons_zero, List.set_cons_succ, qRaise, qFor, qRng1, qRng2, qTup, qLst, qPar, eqD_int, eqD_str, eqD_bl, itD_lst, itD_tup, itD_dic, lenD_lst, lenD_tup, lenD_dic, dicD_dic, lstD_lst, seqD_lst, seqD_tup, qSl, qoNone, qoSome, qRevL, qLrg1, qLrg2, qCX, qKw, qKwX, List.length_cons, List.length_nil, List.map_cons, List.map_nil, qAsgG, gTupQ, gConsQ, gSubT, gNilQ, qTGet, qDcT, kkT, qNewT, qNewK, List.length_map, Int.toNat_natCast, ditD_mut, qIx_tup, qIx_lst, keysT_2, Bool.or_true, Bool.true_or, Int.zero_add, isN_tup, isN_lst, isN_int, isN_dic, isN_non, at_zero, qMeth, qAddL, qMulL, rTupQ, qCBw, qLX, qLKw, qMet, pick_0, pick_10, qFz, qFzN, qDispF, qNewF, qDictF, qpCons, qpNil, qDispB, qDispT, keyPs, obD, qEqV, gSubQ, qNegI, qMets, at4_0, at4_1, at4_2, at4_3, ix4_1, ix4_2, ix4_3])
section
variable {P : Program} {w : World} {K : PySem.W.Frag} {mg : Str → Option Value} {base : Heap}
abbrev si_BadCode : Stmt := clsDef (top 5)
theorem sci_BadCode : FnScope ["self", "code"] ["self", "code"] (defScope si_BadCode) := ⟨rfl, rfl, rfl, by decide +kernel, rfl, by decide +kernel, by decide +kernel⟩
abbrev si_BadSymbols : Stmt := clsDef (top 6)
theorem sci_BadSymbols : FnScope ["self", "symbols"] ["self", "symbols"] (defScope si_BadSymbols) := ⟨rfl, rfl, rfl, by decide +kernel, rfl, by decide +kernel, by decide +kernel⟩
def df_is_list : He.DefD := ⟨("is_list", none), "is_list", "is_list", defArgs s_is_list, defBody s_is_list, defScope s_is_list, [], []⟩
def df_is_whole : He.DefD := ⟨("is_whole", none), "is_whole", "is_whole", defArgs s_is_whole, defBody s_is_whole, defScope s_is_whole, [], []⟩
def df_is_bits : He.DefD := ⟨("is_bits", none), "is_bits", "is_bits", defArgs s_is_bits, defBody s_is_bits, defScope s_is_bits, [], []⟩
def df_is_symbol : He.DefD := ⟨("is_symbol", none), "is_symbol", "is_symbol", defArgs s_is_symbol, defBody s_is_symbol, defScope s_is_symbol, [], []⟩
def df_are_symbols : He.DefD := ⟨("are_symbols", none), "are_symbols", "are_symbols", defArgs s_are_symbols, defBody s_are_symbols, defScope s_are_symbols, [], []⟩
def df_kept_code : He.DefD := ⟨("kept_code", none), "kept_code", "kept_code", defArgs s_kept_code, defBody s_kept_code, defScope s_kept_code, [], []⟩
def df_need_code : He.DefD := ⟨("need_code", none), "need_code", "need_code", defArgs s_need_code, defBody s_need_code, defScope s_need_code, [], []⟩
def df_is_symbol_of : He.DefD := ⟨("is_symbol_of", none), "is_symbol_of", "is_symbol_of", defArgs s_is_symbol_of, defBody s_is_symbol_of, defScope s_is_symbol_of, [], []⟩
def df_are_rows_of : He.DefD := ⟨("are_rows_of", none), "are_rows_of", "are_rows_of", defArgs s_are_rows_of, defBody s_are_rows_of, defScope s_are_rows_of, [], []⟩
def df_bits_of : He.DefD := ⟨("bits_of", none), "bits_of", "bits_of", defArgs s_bits_of, defBody s_bits_of, defScope s_bits_of, [], []⟩
def df_written_bits : He.DefD := ⟨("written_bits", none), "written_bits", "written_bits", defArgs s_written_bits, defBody s_written_bits, defScope s_written_bits, [], []⟩
def df_first_two : He.DefD := ⟨("first_two", none), "first_two", "first_two", defArgs s_first_two, defBody s_first_two, defScope s_first_two, [], []⟩
def df_need_prefix : He.DefD := ⟨("need_prefix", none), "need_prefix", "need_prefix", defArgs s_need_prefix, defBody s_need_prefix, defScope s_need_prefix, [], []⟩
def df_ordered_or_two : He.DefD := ⟨("ordered_or_two", none), "ordered_or_two", "ordered_or_two", defArgs s_ordered_or_two, defBody s_ordered_or_two, defScope s_ordered_or_two, [], []⟩
def df__law_stream : He.DefD := ⟨("_law_stream", none), "_law_stream", "_law_stream", defArgs s__law_stream, defBody s__law_stream, defScope s__law_stream, [], []⟩
def df__law_draw : He.DefD := ⟨("_law_draw", none), "_law_draw", "_law_draw", defArgs s__law_draw, defBody s__law_draw, defScope s__law_draw, [], []⟩
def df__law_pick : He.DefD := ⟨("_law_pick", none), "_law_pick", "_law_pick", defArgs s__law_pick, defBody s__law_pick, defScope s__law_pick, [], []⟩
def df__law_mixed : He.DefD := ⟨("_law_mixed", none), "_law_mixed", "_law_mixed", defArgs s__law_mixed, defBody s__law_mixed, defScope s__law_mixed, [], []⟩
def df__law_same : He.DefD := ⟨("_law_same", none), "_law_same", "_law_same", defArgs s__law_same, defBody s__law_same, defScope s__law_same, [], []⟩
def df__law_is_very : He.DefD := ⟨("_law_is_very", none), "_law_is_very", "_law_is_very", defArgs s__law_is_very, defBody s__law_is_very, defScope s__law_is_very, [], []⟩
def df__law_e_symbols : He.DefD := ⟨("_law_e_symbols", none), "_law_e_symbols", "_law_e_symbols", defArgs s__law_e_symbols, defBody s__law_e_symbols, defScope s__law_e_symbols, [], []⟩
def df__law_e_words : He.DefD := ⟨("_law_e_words", none), "_law_e_words", "_law_e_words", defArgs s__law_e_words, defBody s__law_e_words, defScope s__law_e_words, [], []⟩
def df__law_e_prefix : He.DefD := ⟨("_law_e_prefix", none), "_law_e_prefix", "_law_e_prefix", defArgs s__law_e_prefix, defBody s__law_e_prefix, defScope s__law_e_prefix, [], []⟩
def df__law_e_code : He.DefD := ⟨("_law_e_code", none), "_law_e_code", "_law_e_code", defArgs s__law_e_code, defBody s__law_e_code, defScope s__law_e_code, [], []⟩
def df__law_e_shuffled : He.DefD := ⟨("_law_e_shuffled", none), "_law_e_shuffled", "_law_e_shuffled", defArgs s__law_e_shuffled, defBody s__law_e_shuffled, defScope s__law_e_shuffled, [], []⟩
def df__law_e_odd_codes : He.DefD := ⟨("_law_e_odd_codes", none), "_law_e_odd_codes", "_law_e_odd_codes", defArgs s__law_e_odd_codes, defBody s__law_e_odd_codes, defScope s__law_e_odd_codes, [], []⟩
def df__law_e_is_prefix : He.DefD := ⟨("_law_e_is_prefix", none), "_law_e_is_prefix", "_law_e_is_prefix", defArgs s__law_e_is_prefix, defBody s__law_e_is_prefix, defScope s__law_e_is_prefix, [], []⟩
def df__law_met : He.DefD := ⟨("_law_met", none), "_law_met", "_law_met", defArgs s__law_met, defBody s__law_met, defScope s__law_met, [], []⟩
def df_law : He.DefD := ⟨("law", none), "law", "law", defArgs s_law, defBody s_law, defScope s_law, [], []⟩
def di_BadCode : He.DefD := ⟨("BadCode", some "__init__"), "__init__", "BadCode.__init__", defArgs si_BadCode, defBody si_BadCode, defScope si_BadCode, [], []⟩
def di_BadSymbols : He.DefD := ⟨("BadSymbols", some "__init__"), "__init__", "BadSymbols.__init__", defArgs si_BadSymbols, defBody si_BadSymbols, defScope si_BadSymbols, [], []⟩
def fnL0 : List He.DefD := [df_is_list, df_is_whole, df_is_bits, df_is_symbol, df_are_symbols, df_kept_code, df_need_code, df_is_symbol_of, df_are_rows_of, df_bits_of, df_written_bits, df_first_two, df_need_prefix, df_ordered_or_two, df__law_stream, df__law_draw, df__law_pick, df__law_mixed, df__law_same, df__law_is_very, df__law_e_symbols, df__law_e_words, df__law_e_prefix, df__law_e_code, df__law_e_shuffled, df__law_e_odd_codes, df__law_e_is_prefix, df__law_met, df_law, di_BadCode]
def fnL1 : List He.DefD := [di_BadSymbols]
def fnL : List He.DefD := fnL0 ++ fnL1
def faL0 : List He.Fa := [.free "abs", .free "all", .free "any", .free "bool", .free "dict", .free "int", .free "isinstance", .free "len", .free "list", .free "min", .free "range", .free "sorted", .free "str", .free "tuple", .free "zip", .str "LETTERS" "abcdefghijklmnopqrstuvwxyz", .glo "is_list", .glo "is_whole", .glo "is_bits", .glo "is_symbol", .glo "are_symbols", .glo "kept_code", .glo "need_code", .glo "is_symbol_of", .glo "are_rows_of", .glo "bits_of", .glo "written_bits", .glo "first_two", .glo "need_prefix", .glo "ordered_or_two"]
def faL1 : List He.Fa := [.glo "_law_stream", .glo "_law_draw", .glo "_law_pick", .glo "_law_mixed", .glo "_law_same", .glo "_law_is_very", .glo "_law_e_symbols", .glo "_law_e_words", .glo "_law_e_prefix", .glo "_law_e_code", .glo "_law_e_shuffled", .glo "_law_e_odd_codes", .glo "_law_e_is_prefix", .glo "_law_met", .glo "law"]
def faL : List He.Fa := faL0 ++ faL1
def exL : PySem.W.Frag → Bool := fun K => errB K "BadCode" "code" && (errB K "BadSymbols" "symbols" && (err0B K "NotPrefix" && (exB K "NotPrefix" "NotPrefix" true && (exB K "BadCode" "NotPrefix" false && (exB K "BadCode" "BadCode" true && (neT K "law" "_law_is_very" && (true)))))))
abbrev tbN : List (Str × Option Str) := [("law", none), ("_law_is_very", none)]
def lsL0 : List Str := ["is_list", "is_whole", "BitError", "BadCode", "BadSymbols", "NotPrefix", "LETTERS", "is_bits", "is_symbol", "are_symbols", "kept_code", "need_code", "is_symbol_of", "are_rows_of", "bits_of", "written_bits", "first_two", "need_prefix", "ordered_or_two", "_law_stream", "_law_draw", "_law_pick", "_law_mixed", "_law_same", "_law_is_very", "_law_e_symbols", "_law_e_words", "_law_e_prefix", "_law_e_code", "_law_e_shuffled"]
def lsL1 : List Str := ["_law_e_odd_codes", "_law_e_is_prefix", "_law_met"]
def lsL : List Str := lsL0 ++ lsL1
theorem nv_ok {K : PySem.W.Frag} {h : Heap} {mg : Str → Option Value} (X : K.In h) (G : h.Ns mainGlobals mg) (c : He.SaysD faL fnL K) : Nv K mg := ⟨He.free_ok X G (c.fact 0 rfl), He.free_ok X G (c.fact 1 rfl), He.free_ok X G (c.fact 2 rfl), He.free_ok X G (c.fact 3 rfl), He.free_ok X G (c.fact 4 rfl), He.free_ok X G (c.fact 5 rfl), He.free_ok X G (c.fact 6 rfl), He.free_ok X G (c.fact 7 rfl), He.free_ok X G (c.fact 8 rfl), He.free_ok X G (c.fact 9 rfl), He.free_ok X G (c.fact 10 rfl), He.free_ok X G (c.fact 11 rfl), He.free_ok X G (c.fact 12 rfl), He.free_ok X G (c.fact 13 rfl), He.free_ok X G (c.fact 14 rfl), He.str_ok X G (c.fact 15 rfl), (let ⟨fd, F⟩ := c.def_ 0 (d := df_is_list) rfl; ⟨_, fd, _root_.Qd.fun_of F, He.glo_ok X G (c.fact 16 rfl)⟩), (let ⟨fd, F⟩ := c.def_ 1 (d := df_is_whole) rfl; ⟨_, fd, _root_.Qd.fun_of F, He.glo_ok X G (c.fact 17 rfl)⟩), (let ⟨fd, F⟩ := c.def_ 2 (d := df_is_bits) rfl; ⟨_, fd, _root_.Qd.fun_of F, He.glo_ok X G (c.fact 18 rfl)⟩), (let ⟨fd, F⟩ := c.def_ 3 (d := df_is_symbol) rfl; ⟨_, fd, _root_.Qd.fun_of F, He.glo_ok X G (c.fact 19 rfl)⟩), (let ⟨fd, F⟩ := c.def_ 4 (d := df_are_symbols) rfl; ⟨_, fd, _root_.Qd.fun_of F, He.glo_ok X G (c.fact 20 rfl)⟩), (let ⟨fd, F⟩ := c.def_ 5 (d := df_kept_code) rfl; ⟨_, fd, _root_.Qd.fun_of F, He.glo_ok X G (c.fact 21 rfl)⟩), (let ⟨fd, F⟩ := c.def_ 6 (d := df_need_code) rfl; ⟨_, fd, _root_.Qd.fun_of F, He.glo_ok X G (c.fact 22 rfl)⟩), (let ⟨fd, F⟩ := c.def_ 7 (d := df_is_symbol_of) rfl; ⟨_, fd, _root_.Qd.fun_of F, He.glo_ok X G (c.fact 23 rfl)⟩), (let ⟨fd, F⟩ := c.def_ 8 (d := df_are_rows_of) rfl; ⟨_, fd, _root_.Qd.fun_of F, He.glo_ok X G (c.fact 24 rfl)⟩), (let ⟨fd, F⟩ := c.def_ 9 (d := df_bits_of) rfl; ⟨_, fd, _root_.Qd.fun_of F, He.glo_ok X G (c.fact 25 rfl)⟩), (let ⟨fd, F⟩ := c.def_ 10 (d := df_written_bits) rfl; ⟨_, fd, _root_.Qd.fun_of F, He.glo_ok X G (c.fact 26 rfl)⟩), (let ⟨fd, F⟩ := c.def_ 11 (d := df_first_two) rfl; ⟨_, fd, _root_.Qd.fun_of F, He.glo_ok X G (c.fact 27 rfl)⟩), (let ⟨fd, F⟩ := c.def_ 12 (d := df_need_prefix) rfl; ⟨_, fd, _root_.Qd.fun_of F, He.glo_ok X G (c.fact 28 rfl)⟩), (let ⟨fd, F⟩ := c.def_ 13 (d := df_ordered_or_two) rfl; ⟨_, fd, _root_.Qd.fun_of F, He.glo_ok X G (c.fact 29 rfl)⟩), (let ⟨fd, F⟩ := c.def_ 14 (d := df__law_stream) rfl; ⟨_, fd, _root_.Qd.fun_of F, He.glo_ok X G (c.fact 30 rfl)⟩), (let ⟨fd, F⟩ := c.def_ 15 (d := df__law_draw) rfl; ⟨_, fd, _root_.Qd.fun_of F, He.glo_ok X G (c.fact 31 rfl)⟩), (let ⟨fd, F⟩ := c.def_ 16 (d := df__law_pick) rfl; ⟨_, fd, _root_.Qd.fun_of F, He.glo_ok X G (c.fact 32 rfl)⟩), (let ⟨fd, F⟩ := c.def_ 17 (d := df__law_mixed) rfl; ⟨_, fd, _root_.Qd.fun_of F, He.glo_ok X G (c.fact 33 rfl)⟩), (let ⟨fd, F⟩ := c.def_ 18 (d := df__law_same) rfl; ⟨_, fd, _root_.Qd.fun_of F, He.glo_ok X G (c.fact 34 rfl)⟩), (let ⟨fd, F⟩ := c.def_ 19 (d := df__law_is_very) rfl; ⟨_, fd, _root_.Qd.fun_of F, He.glo_ok X G (c.fact 35 rfl)⟩), (let ⟨fd, F⟩ := c.def_ 20 (d := df__law_e_symbols) rfl; ⟨_, fd, _root_.Qd.fun_of F, He.glo_ok X G (c.fact 36 rfl)⟩), (let ⟨fd, F⟩ := c.def_ 21 (d := df__law_e_words) rfl; ⟨_, fd, _root_.Qd.fun_of F, He.glo_ok X G (c.fact 37 rfl)⟩), (let ⟨fd, F⟩ := c.def_ 22 (d := df__law_e_prefix) rfl; ⟨_, fd, _root_.Qd.fun_of F, He.glo_ok X G (c.fact 38 rfl)⟩), (let ⟨fd, F⟩ := c.def_ 23 (d := df__law_e_code) rfl; ⟨_, fd, _root_.Qd.fun_of F, He.glo_ok X G (c.fact 39 rfl)⟩), (let ⟨fd, F⟩ := c.def_ 24 (d := df__law_e_shuffled) rfl; ⟨_, fd, _root_.Qd.fun_of F, He.glo_ok X G (c.fact 40 rfl)⟩), (let ⟨fd, F⟩ := c.def_ 25 (d := df__law_e_odd_codes) rfl; ⟨_, fd, _root_.Qd.fun_of F, He.glo_ok X G (c.fact 41 rfl)⟩), (let ⟨fd, F⟩ := c.def_ 26 (d := df__law_e_is_prefix) rfl; ⟨_, fd, _root_.Qd.fun_of F, He.glo_ok X G (c.fact 42 rfl)⟩), (let ⟨fd, F⟩ := c.def_ 27 (d := df__law_met) rfl; ⟨_, fd, _root_.Qd.fun_of F, He.glo_ok X G (c.fact 43 rfl)⟩), (let ⟨fd, F⟩ := c.def_ 28 (d := df_law) rfl; ⟨_, fd, _root_.Qd.fun_of F, He.glo_ok X G (c.fact 44 rfl)⟩)⟩

abbrev RR : PySem.W.OpenRow := PySem.W.OpenLaw.row PySem.Challenge.rw_denserows_k66_whole_ordered_or_two
abbrev hk : PySem.W.Hook := He.hookX 5 faL fnL [] tbN exL
def ob (s : PySem.W.SharedT) : He.AlX := He.obsX 5 faL fnL [] tbN exL (HandSHeadRun.getT s)
theorem ob_eq (s : PySem.W.SharedT) : ob s = hk.obs s.abs := He.obsX_eq (HandSHeadRun.getT_eq s)
theorem run (w : World) : HandSHeadRun.RunEq RR (PySem.W.view RR.prog [39]) hk ob 2000 lsL w := by
  intro os
  kernel_rfl
theorem nb_bits (z : Int) : nb z.natAbs = Builtin.Int.intBits z := by
  unfold nb Builtin.Int.intBits
  by_cases h : z = 0
  · subst h; rfl
  · rw [if_neg (by omega), if_neg (by simpa using h)]
theorem law_at {w : World} {h : Heap} {mg : Str → Option Value} {fa : Addr} (X : K.In h) (G : h.Ns mainGlobals mg) (c : He.SaysX faL fnL [] tbN exL w h K) (hfa : mg ("law" : Str) = some (.ref fa)) :
    LamX.LawAtS PySem.Challenge.rw_denserows_k66_whole_ordered_or_two w K CX0 15 63 "script" mg fa h := by
  have Z := nv_ok X G c.t.d
  obtain ⟨fL, fd, FL, hmg⟩ := Z.f_law
  have ef : fL = fa := by rw [hfa] at hmg; cases hmg; rfl
  subst ef
  obtain ⟨fV, fdV, FV, hmV⟩ := Z.f__law_is_very
  have hmore := c.more
  unfold exL at hmore
  obtain ⟨b1, hmore⟩ := Bool.and_eq_true_iff.mp hmore
  obtain ⟨b2, hmore⟩ := Bool.and_eq_true_iff.mp hmore
  obtain ⟨b3, hmore⟩ := Bool.and_eq_true_iff.mp hmore
  obtain ⟨b4, hmore⟩ := Bool.and_eq_true_iff.mp hmore
  obtain ⟨b5, hmore⟩ := Bool.and_eq_true_iff.mp hmore
  obtain ⟨b6, hmore⟩ := Bool.and_eq_true_iff.mp hmore
  obtain ⟨b7, _⟩ := Bool.and_eq_true_iff.mp hmore
  obtain ⟨fd1, F1⟩ := c.t.d.def_ 29 (d := di_BadCode) rfl
  have F1' : Fun K "__init__" "BadCode.__init__" si_BadCode (He.ma K (He.ga K "BadCode") "__init__") fd1 := _root_.Qd.fun_of F1
  obtain ⟨fd2, F2⟩ := c.t.d.def_ 30 (d := di_BadSymbols) rfl
  have F2' : Fun K "__init__" "BadSymbols.__init__" si_BadSymbols (He.ma K (He.ga K "BadSymbols") "__init__") fd2 := _root_.Qd.fun_of F2
  have E1 := errB_ok b1
  have E2 := errB_ok b2
  have E3 := err0_of X G b3
  have XF : ExF K (He.ga K "BadCode") (He.ga K "NotPrefix") := ⟨of_decide_eq_true b4, of_decide_eq_true b5, of_decide_eq_true b6⟩
  have hne := of_decide_eq_true b7
  obtain ⟨oc, od, kV, doc, pm, an, cdv, ct, osl, rfl, lk, hcd⟩ := FL.ex
  obtain ⟨cc, rfl⟩ := He.codeIn_ref hcd
  have eL : fL = He.fAd K ("law", none) := by
    have e2 := He.glo_ok X G (x := "law") (c.t.d.fact 44 (f := .glo "law") rfl)
    rw [hfa] at e2
    cases e2; rfl
  have ec : He.codeOf K ("law", none) = cc := He.codeOf_eq (by rw [← eL]; exact lk) rfl
  refine ⟨PySem.W.fnOf "law" "law" (defArgs s_law) (defBody s_law) (defScope s_law) .none kV doc pm an (.ref cc) ct, [He.cT K ("law", none), He.cT K ("_law_is_very", none)], liftSpT K (tbL (He.cT K ("law", none)).2 (He.cT K ("_law_is_very", none)).2) r_law, fun p hp => ?_, fun p hp => ?_, fun p hp => ?_, fun s u => .of_eq rfl, fun H a ns hl hbits hT hS => ?_, fun base hb hn hTB => ?_⟩
  · rcases List.mem_cons.mp hp with e | e
    · rw [e]; exact c.empty _ (.head _)
    · rw [List.mem_singleton.mp e]; exact c.empty _ (.tail _ (.head _))
  · rcases List.mem_cons.mp hp with e | e
    · rw [e]; exact c.out _ (.head _)
    · rw [List.mem_singleton.mp e]; exact c.out _ (.tail _ (.head _))
  · rcases List.mem_cons.mp hp with e | e
    · rw [e]; exact PySem.W.codeHd_of_K X (c.hd _ (.head _))
    · rw [List.mem_singleton.mp e]; exact PySem.W.codeHd_of_K X (c.hd _ (.tail _ (.head _)))
  · obtain ⟨F, hR, hr⟩ := start_law (tb := tbL (He.cT K ("law", none)).2 (He.cT K ("_law_is_very", none)).2) (fun p hp => by
      rcases List.mem_cons.mp hp with e | e
      · rw [e]; exact hT _ (.head _)
      · rw [List.mem_singleton.mp e]; exact hT _ (.tail _ (.head _))) hS
    refine ⟨F, _, _, .cons hr .nil, hR, fun d _ => d = .bl true, ⟨ns, rfl, hl, fun x hx => by rw [nb_bits]; exact hbits x hx, fun _ => rfl⟩, fun d A' v H' F' e _ r => ?_⟩
    subst e
    exact r.bl_inv
  · have TBl := hTB _ (.head _)
    have e1 : (He.cT K ("law", none)).1 = cc := ec
    rw [e1] at TBl
    have TBv := hTB _ (.tail _ (.head _))
    have hV : MkAt K mg base "_law_is_very" s__law_is_very (He.cT K ("_law_is_very", none)).2 := mkAt_of X G FV hmV (c.t.d.fact 35 (f := .glo "_law_is_very") rfl) TBv
    exact fn_law Z (err_of X G E1 rfl F1' sci_BadCode rfl (fun _ _ _ _ _ _ us hl => match us, hl with | [_, _], _ => rfl)) (err_of X G E2 rfl F2' sci_BadSymbols rfl (fun _ _ _ _ _ _ us hl => match us, hl with | [_, _], _ => rfl)) E3 E1.xf E1.no XF hV hne lk hcd TBl
end
end K66
open PySem PySem.W PySem.Calls PyProof.Rows
set_option maxRecDepth 100000 in
set_option maxHeartbeats 0 in
theorem PySem.Challenge.cw_denserows_k66_whole_ordered_or_two_holds : PySem.Challenge.rw_denserows_k66_whole_ordered_or_two.Holds := by
  w_on; o_law
  refine HandSHeadRun.head_any (r := OpenLaw.row PySem.Challenge.rw_denserows_k66_whole_ordered_or_two) (q := view (OpenLaw.row PySem.Challenge.rw_denserows_k66_whole_ordered_or_two).prog [39]) (H := K66.hk) (ob := K66.ob) (M := 2000) (loose := K66.lsL) (d := HandSHeadRun.topDef (OpenLaw.row PySem.Challenge.rw_denserows_k66_whole_ordered_or_two).prog 39) (kwd := []) K66.ob_eq
    (by kernel_rfl) (fun s => by kernel_rfl) K66.run (by kernel_rfl) (by kernel_rfl) (by kernel_rfl) (by rfl) (by first | assumption | decide +kernel) (by decide +kernel) ⟨rfl, rfl, rfl, rfl, rfl, by decide +kernel⟩ ?hw ?hc
  case hw => w_witness2
  case hc =>
    refine LamX.walk_ofTsE (l := PySem.Challenge.rw_denserows_k66_whole_ordered_or_two) (n := 63) (k := 15) (x := "script") (CX := fun _ => L2.CX0) rfl (by decide) (by kernel_rfl) ⟨rfl, by decide, by decide⟩ ?F (fun _ _ _ _ _ z => z)
    intro w mg fa h Y G hmg0
    obtain ⟨K, KX, c⟩ := Y
    have hmg : mg ("law" : PySem.Str) = some (.ref fa) := by
      have e : (HandSHeadRun.topDef (OpenLaw.row PySem.Challenge.rw_denserows_k66_whole_ordered_or_two).prog 39).name = ("law" : PySem.Str) := by kernel_rfl
      rw [← e]
      exact hmg0
    exact ⟨K, KX, K66.law_at KX G c hmg⟩


