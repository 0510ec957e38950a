import PyProof.Rows.All
import Wide.All
import OpenK.AllK
import Wide.FinOn
import HandS.ForMost
import HandS.ForExc
import HandS.Evl
import HandS.IsInst
import HandS.DictComp
import HandS.Lambda
import HandS.TryMany
import HandS.ExcInit
import HandS.More
import HandS.Conv
import HandS.Zip
import HandS.SortInts
import HandS.EndTab
import HandS.TupAny
import HandS.ListItems
import HandS.Style
import HandS.Small
import KE.KDictCopyH
import KE.KDictDisplayH
import HandS.DictTup
import HandS.WordsExc
import HandS.ExcField
import KE.GoesEnum
import HandS.HeadHook4
import HandS.Head2
import HandS.HeadEnd
import HandS.HeadWalk
import PySem.Challenge.RW_denserows_k68_any_shares_judged
set_option Elab.async false
set_option linter.all false
set_option maxRecDepth 100000
set_option maxHeartbeats 4000000
/-! Second layer, part A: values as plain data (D), what represents them in the abstract heap (Rep), the state (RS). -/
namespace Qd
open PySem L2

/-- plain data; a `mut a` is an object at a that may still change (its content stands in the small heap MH) -/
inductive D where
  | non | bl (b : Bool) | int (i : Int) | str (x : Str) | ty (n : String)
  | tup (xs : List D) | lst (xs : List D) | dic (kvs : List (Key × D))
  /-- a dict with keys of any sort, read only -/
  | gdc (kvs : List (D × D))
  | mut (a : Addr) | fn (a : Addr)
  /-- a list that is read, wherever it stands (the script) -/
  | frl (xs : List D)

def kD : Key → D
  | .inl i => .int i
  | .inr x => .str x

/-- a dict, whatever its keys are, read only -/
def GD (a : Addr) (ps : List (V × V)) : HO := .ext fun h => (a == sysModules) = false ∧ ∃ (o : Obj) (es : Array DictEntry) (ep : Nat), h.get? a = some o ∧ o.ExactDict ∧ o.data = .dict es ep ∧ es.size ≤ sizeLine ∧
  Paired (fun (p : V × V) (e : DictEntry) => RelV p.1 e.key ∧ RelV p.2 e.val) ps es.toList
mutual
inductive Rep (K : PySem.W.Frag) (F : Hp) : V → D → Prop
  | non : Rep K F .non .non
  | bl (b : Bool) : Rep K F (.bl b) (.bl b)
  | int (i : Int) : Rep K F (.int i) (.int i)
  | str (x : Str) : Rep K F (.str x) (.str x)
  | ty (n : String) : Rep K F (.ty n) (.ty n)
  | tup {a : Addr} {vs : List V} {ds : List D} : SqT K F a vs → Reps K F vs ds → Rep K F (.ref a) (.tup ds)
  | lst {a : Addr} {vs : List V} {ds : List D} : F a = some (.lst vs) → Reps K F vs ds → Rep K F (.ref a) (.lst ds)
  | frl {a : Addr} {vs : List V} {ds : List D} : SqL K F a vs → Reps K F vs ds → Rep K F (.ref a) (.frl ds)
  | dic {a : Addr} {o : Obj} {ps : List (Key × V)} {ds : List (Key × D)} : F a = some (.frz o (.dK ps)) → KvRep K F ps ds → Rep K F (.ref a) (.dic ds)
  | gdc {a : Addr} {ps : List (V × V)} {ds : List (D × D)} : F a = some (GD a ps) → RepK K F ps ds → Rep K F (.ref a) (.gdc ds)
  | mut (a : Addr) : Rep K F (.ref a) (.mut a)
  | fn (a : Addr) : Rep K F (.ref a) (.fn a)
inductive Reps (K : PySem.W.Frag) (F : Hp) : List V → List D → Prop
  | nil : Reps K F [] []
  | cons {v : V} {d : D} {vs : List V} {ds : List D} : Rep K F v d → Reps K F vs ds → Reps K F (v :: vs) (d :: ds)
inductive RepK (K : PySem.W.Frag) (F : Hp) : List (V × V) → List (D × D) → Prop
  | nil : RepK K F [] []
  | cons {k v : V} {c d : D} {ps : List (V × V)} {ds : List (D × D)} : Rep K F k c → Rep K F v d → RepK K F ps ds → RepK K F ((k, v) :: ps) ((c, d) :: ds)
inductive KvRep (K : PySem.W.Frag) (F : Hp) : List (Key × V) → List (Key × D) → Prop
  | nil : KvRep K F [] []
  | cons {n : Key} {v : V} {d : D} {ps : List (Key × V)} {ds : List (Key × D)} : Rep K F v d → KvRep K F ps ds → KvRep K F ((n, v) :: ps) ((n, d) :: ds)
end

section
variable {K : PySem.W.Frag} {F F' : Hp}
theorem sqT_mono (e : Same F F') {a : Addr} {xs : List V} (h : SqT K F a xs) : SqT K F' a xs := by
  rcases h with (h | ⟨o, h⟩) | h
  · exact .inl (.inl (e _ _ h))
  · exact .inl (.inr ⟨o, e _ _ h⟩)
  · exact .inr h
mutual
theorem Rep.mono (e : Same F F') : ∀ {v : V} {d : D}, Rep K F v d → Rep K F' v d
  | _, _, .non => .non
  | _, _, .bl b => .bl b
  | _, _, .int i => .int i
  | _, _, .str x => .str x
  | _, _, .ty x => .ty x
  | _, _, .tup h r => .tup (sqT_mono e h) (Reps.mono e r)
  | _, _, .lst h r => .lst (e _ _ h) (Reps.mono e r)
  | _, _, .frl h r => .frl (e.seq h) (Reps.mono e r)
  | _, _, .dic h r => .dic (e _ _ h) (KvRep.mono e r)
  | _, _, .gdc h r => .gdc (e _ _ h) (RepK.mono e r)
  | _, _, .mut a => .mut a
  | _, _, .fn a => .fn a
theorem Reps.mono (e : Same F F') : ∀ {vs : List V} {ds : List D}, Reps K F vs ds → Reps K F' vs ds
  | _, _, .nil => .nil
  | _, _, .cons h r => .cons (Rep.mono e h) (Reps.mono e r)
theorem RepK.mono (e : Same F F') : ∀ {vs : List (V × V)} {ds : List (D × D)}, RepK K F vs ds → RepK K F' vs ds
  | _, _, .nil => .nil
  | _, _, .cons g h r => .cons (Rep.mono e g) (Rep.mono e h) (RepK.mono e r)
theorem KvRep.mono (e : Same F F') : ∀ {vs : List (Key × V)} {ds : List (Key × D)}, KvRep K F vs ds → KvRep K F' vs ds
  | _, _, .nil => .nil
  | _, _, .cons h r => .cons (Rep.mono e h) (KvRep.mono e r)
end
theorem Reps.length : ∀ {vs : List V} {ds : List D}, Reps K F vs ds → vs.length = ds.length
  | _, _, .nil => rfl
  | _, _, .cons _ r => by rw [List.length_cons, List.length_cons, r.length]
theorem Reps.get : ∀ {vs : List V} {ds : List D} {i : Nat} {d : D}, Reps K F vs ds → ds[i]? = some d → ∃ v, vs[i]? = some v ∧ Rep K F v d
  | _, _, _, _, .nil, e => by simp at e
  | _, _, 0, _, .cons r _, e => by simp at e; subst e; exact ⟨_, rfl, r⟩
  | _, _, i + 1, d, .cons _ t, e => by
    obtain ⟨v, h1, h2⟩ := Reps.get (i := i) (d := d) t (by simpa using e)
    exact ⟨v, by simpa using h1, h2⟩
theorem Reps.getV : ∀ {vs : List V} {ds : List D} {i : Nat} {v : V}, Reps K F vs ds → vs[i]? = some v → ∃ d, ds[i]? = some d ∧ Rep K F v d
  | _, _, _, _, .nil, e => by simp at e
  | _, _, 0, _, .cons r _, e => by simp at e; subst e; exact ⟨_, rfl, r⟩
  | _, _, i + 1, v, .cons _ t, e => by
    obtain ⟨d, h1, h2⟩ := Reps.getV (i := i) (v := v) t (by simpa using e)
    exact ⟨d, by simpa using h1, h2⟩
theorem Reps.append : ∀ {vs ws : List V} {ds es : List D}, Reps K F vs ds → Reps K F ws es → Reps K F (vs ++ ws) (ds ++ es)
  | _, _, _, _, .nil, s => s
  | _, _, _, _, .cons r t, s => .cons r (Reps.append t s)
theorem Reps.take : ∀ {vs : List V} {ds : List D} (n : Nat), Reps K F vs ds → Reps K F (vs.take n) (ds.take n)
  | _, _, 0, _ => .nil
  | _, _, _ + 1, .nil => .nil
  | _, _, n + 1, .cons r t => .cons r (Reps.take n t)
theorem Reps.drop : ∀ {vs : List V} {ds : List D} (n : Nat), Reps K F vs ds → Reps K F (vs.drop n) (ds.drop n)
  | _, _, 0, r => r
  | _, _, _ + 1, .nil => .nil
  | _, _, n + 1, .cons _ t => Reps.drop n t
theorem Reps.eraseIdx : ∀ {vs : List V} {ds : List D} (n : Nat), Reps K F vs ds → Reps K F (vs.eraseIdx n) (ds.eraseIdx n)
  | _, _, _, .nil => .nil
  | _, _, 0, .cons _ t => t
  | _, _, n + 1, .cons r t => .cons r (Reps.eraseIdx n t)
theorem Reps.set {v : V} {d : D} (r : Rep K F v d) : ∀ {vs : List V} {ds : List D} (n : Nat), Reps K F vs ds → Reps K F (vs.set n v) (ds.set n d)
  | _, _, _, .nil => .nil
  | _, _, 0, .cons _ t => .cons r t
  | _, _, n + 1, .cons q t => .cons q (Reps.set r n t)
theorem Reps.reverse : ∀ {vs : List V} {ds : List D}, Reps K F vs ds → Reps K F vs.reverse ds.reverse
  | _, _, .nil => .nil
  | _, _, .cons r t => by
    rw [List.reverse_cons, List.reverse_cons]
    exact Reps.append (Reps.reverse t) (.cons r .nil)
theorem Reps.atI {vs : List V} {ds : List D} {i : Int} {d : D} (r : Reps K F vs ds) (h : L2.atI ds i = some d) : ∃ v, L2.atI vs i = some v ∧ Rep K F v d := by
  unfold L2.atI at *
  rw [r.length]
  cases e : ixN ds.length i with
  | none => rw [e] at h; cases h
  | some j =>
    rw [e] at h
    exact r.get h

/-! ### what may change -/
inductive MO where
  | lst (xs : List D) | dic (kvs : List (Key × D)) | dit (kvs : List (List Key × D)) | ins (C dx : Addr) (fs : List (Str × D))
abbrev MH := Addr → Option MO
def MH.set (A : MH) (a : Addr) (o : MO) : MH := fun b => if b = a then some o else A b
def MH.del (A : MH) (a : Addr) : MH := fun b => if b = a then none else A b
theorem MH.set_same {A : MH} {a : Addr} {o : MO} : A.set a o a = some o := if_pos rfl
theorem MH.set_ne {A : MH} {a b : Addr} {o : MO} (h : b ≠ a) : A.set a o b = A b := if_neg h
theorem MH.del_same {A : MH} {a : Addr} : A.del a a = none := if_pos rfl
theorem MH.del_ne {A : MH} {a b : Addr} (h : b ≠ a) : A.del a b = A b := if_neg h
theorem MH.del_set {A : MH} {a : Addr} {o : MO} (h : A a = none) : (A.set a o).del a = A := by
  funext b
  by_cases e : b = a
  · subst e; rw [del_same, h]
  · rw [del_ne e, set_ne e]
theorem MH.set_set {A : MH} {a : Addr} {o u : MO} : (A.set a o).set a u = A.set a u := by
  funext b
  by_cases e : b = a
  · subst e; rw [set_same, set_same]
  · rw [set_ne e, set_ne e, set_ne e]
theorem MH.set_comm {A : MH} {a b : Addr} {o u : MO} (h : a ≠ b) : (A.set a o).set b u = (A.set b u).set a o := by
  funext c
  by_cases e : c = a
  · subst e; rw [set_ne h, set_same, set_same]
  · by_cases e2 : c = b
    · subst e2; rw [set_same, set_ne e, set_same]
    · rw [set_ne e2, set_ne e, set_ne e, set_ne e2]
theorem MH.set_id {A : MH} {a : Addr} {o : MO} (h : A a = some o) : A.set a o = A := by
  funext b
  by_cases e : b = a
  · subst e; rw [set_same, h]
  · rw [set_ne e]

inductive FsRep (K : PySem.W.Frag) (F : Hp) : List (Str × V) → List (Str × D) → Prop
  | nil : FsRep K F [] []
  | cons {n : Str} {v : V} {d : D} {ps : List (Str × V)} {ds : List (Str × D)} : Rep K F v d → FsRep K F ps ds → FsRep K F ((n, v) :: ps) ((n, d) :: ds)
inductive KtRep (K : PySem.W.Frag) (F : Hp) : List (List Key × V) → List (List Key × D) → Prop
  | nil : KtRep K F [] []
  | cons {n : List Key} {v : V} {d : D} {ps : List (List Key × V)} {ds : List (List Key × D)} : Rep K F v d → KtRep K F ps ds → KtRep K F ((n, v) :: ps) ((n, d) :: ds)
theorem KtRep.mono (e : Same F F') : ∀ {vs : List (List Key × V)} {ds : List (List Key × D)}, KtRep K F vs ds → KtRep K F' vs ds
  | _, _, .nil => .nil
  | _, _, .cons h r => .cons (h.mono e) (KtRep.mono e r)
theorem FsRep.mono (e : Same F F') : ∀ {vs : List (Str × V)} {ds : List (Str × D)}, FsRep K F vs ds → FsRep K F' vs ds
  | _, _, .nil => .nil
  | _, _, .cons h r => .cons (h.mono e) (FsRep.mono e r)
theorem KvRep.length : ∀ {vs : List (Key × V)} {ds : List (Key × D)}, KvRep K F vs ds → vs.length = ds.length
  | _, _, .nil => rfl
  | _, _, .cons _ r => by rw [List.length_cons, List.length_cons, r.length]

def MoRep (K : PySem.W.Frag) (F H : Hp) (a : Addr) : MO → Prop
  | .lst xs => ∃ vs, H a = some (.lst vs) ∧ Reps K F vs xs
  | .dic kvs => ∃ ps, H a = some (.dK ps) ∧ KvRep K F ps kvs
  | .dit kvs => ∃ ps, H a = some (.dT ps) ∧ KtRep K F ps kvs
  | .ins C dx fs => ∃ vs, H a = some (.ins C dx vs) ∧ FsRep K F vs fs
theorem MoRep.mono (e : Same F F') {H H' : Hp} {a : Addr} {o : MO} (hH : H' a = H a) (h : MoRep K F H a o) : MoRep K F' H' a o := by
  cases o with
  | lst xs => obtain ⟨vs, h1, h2⟩ := h; exact ⟨vs, hH.trans h1, h2.mono e⟩
  | dic xs => obtain ⟨vs, h1, h2⟩ := h; exact ⟨vs, hH.trans h1, h2.mono e⟩
  | dit xs => obtain ⟨vs, h1, h2⟩ := h; exact ⟨vs, hH.trans h1, h2.mono e⟩
  | ins C dx xs => obtain ⟨vs, h1, h2⟩ := h; exact ⟨vs, hH.trans h1, h2.mono e⟩
/-- all but the code tables (these grow by themselves) -/
def Plain : HO → Prop
  | .tbl _ => False
  | _ => True
/-- what is written in place -/
def Wr : HO → Prop
  | .lst _ | .dK _ | .dT _ | .ins _ _ _ => True
  | .ext φ => ∃ a : Addr, ∀ h : Heap, φ h → ∃ (o : Obj) (es : Array DictEntry) (ep : Nat), h.get? a = some o ∧ o.data = .dict es ep
  | _ => False
theorem notWr_code {c : Addr} {q : Str} : ¬ Wr (LamX.CodeO c q) := by
  rintro ⟨a, h⟩
  let ob : Obj := { cls := .none, data := .fields #[.none, .str q 0] }
  have at' : ∀ b : Addr, b ≤ a + c → ({ objs := Array.replicate (a + c + 1) ob } : Heap).get? b = some ob := fun b hb => by
    unfold Heap.get?
    have e : (Array.replicate (a + c + 1) ob)[b]? = some ob := by simp [Array.getElem?_replicate, Nat.lt_succ_of_le hb]
    show (match (Array.replicate (a + c + 1) ob)[b]? with | some ⟨_, _, .freed, _⟩ => none | o => o) = some ob
    rw [e]
  obtain ⟨o, es, ep, e1, e2⟩ := h { objs := Array.replicate (a + c + 1) ob } ⟨ob, _, 0, at' c (Nat.le_add_left _ _), rfl, rfl⟩
  rw [at' a (Nat.le_add_right _ _)] at e1
  cases e1
  cases e2
theorem Wr.plain {u : HO} (h : Wr u) : Plain u := by
  cases u <;> first | trivial | exact h.elim
theorem MoRep.there {H : Hp} {a : Addr} {o : MO} (h : MoRep K F H a o) : ∃ u, H a = some u ∧ Wr u ∧ Mut (some u) := by
  cases o with
  | lst xs => obtain ⟨vs, h1, _⟩ := h; exact ⟨_, h1, trivial, trivial⟩
  | dic xs => obtain ⟨vs, h1, _⟩ := h; exact ⟨_, h1, trivial, trivial⟩
  | dit xs => obtain ⟨vs, h1, _⟩ := h; exact ⟨_, h1, trivial, trivial⟩
  | ins C dx xs => obtain ⟨vs, h1, _⟩ := h; exact ⟨_, h1, trivial, trivial⟩

/-- the state: what is frozen, what may change, the code tables -/
structure RS0 (K : PySem.W.Frag) (T : List (Addr × Str)) (F : Hp) (A : MH) (H : Hp) : Prop where
  sub : Same F H
  mem : ∀ a o, A a = some o → F a = none ∧ MoRep K F H a o
  tab : LamX.Tabs T H
  pl : ∀ a u, F a = some u → Plain u
section
variable {T : List (Addr × Str)} {A : MH} {H H' : Hp}
/-- a table, a code object is no plain thing -/
theorem tabs_keep (t : LamX.Tabs T H) (e : ∀ b u, H b = some u → ¬ Wr u → H' b = some u) : LamX.Tabs T H' := fun p hp => by
  obtain ⟨ps, h1, h2, h3⟩ := t p hp
  refine ⟨ps, e _ _ h1 (fun z => z), h2, fun pos cv hc => ?_⟩
  obtain ⟨c, e1, e2⟩ := h3 pos cv hc
  exact ⟨c, e1, e _ _ e2 notWr_code⟩
theorem RS0.free (R : RS0 K T F A H) {p : Addr} (h : H p = none) : F p = none ∧ A p = none := by
  refine ⟨R.sub.free h, ?_⟩
  cases e : A p with
  | none => rfl
  | some o =>
    obtain ⟨u, hu, _⟩ := (R.mem p o e).2.there
    rw [h] at hu; cases hu
/-- a new frozen object -/
theorem RS0.newF (R : RS0 K T F A H) {p : Addr} {u : HO} (h : H p = none) (pu : Plain u) : RS0 K T (upd F p u) A (upd H p u) ∧ Same F (upd F p u) := by
  have hF := (R.free h).1
  have sm : Same F (upd F p u) := fun b o e => by rw [upd_ne (ne_of_none e hF)]; exact e
  refine ⟨⟨fun b o e => ?_, fun b o e => ?_, tabs_keep R.tab fun b o e _ => by rw [upd_ne (ne_of_none e h)]; exact e, fun b o e => ?_⟩, sm⟩
  · by_cases hb : b = p
    · subst hb; rw [upd_same] at e ⊢; exact e
    · rw [upd_ne hb] at e ⊢; exact R.sub _ _ e
  · obtain ⟨m1, m2⟩ := R.mem b o e
    obtain ⟨x, hx, _⟩ := m2.there
    have hb : b ≠ p := ne_of_none hx h
    exact ⟨by rw [upd_ne hb]; exact m1, m2.mono sm (upd_ne hb)⟩
  · by_cases hb : b = p
    · subst hb; rw [upd_same] at e; cases e; exact pu
    · rw [upd_ne hb] at e; exact R.pl _ _ e
/-- a new object that may change -/
theorem RS0.newM (R : RS0 K T F A H) {p : Addr} {u : HO} {m : MO} (h : H p = none) (hm : MoRep K F (upd H p u) p m) : RS0 K T F (A.set p m) (upd H p u) := by
  have hF := (R.free h).1
  refine ⟨fun b o e => ?_, fun b o e => ?_, tabs_keep R.tab fun b o e _ => by rw [upd_ne (ne_of_none e h)]; exact e, R.pl⟩
  · rw [upd_ne (ne_of_none e hF)]; exact R.sub _ _ e
  · by_cases hb : b = p
    · subst hb; rw [MH.set_same] at e; cases e; exact ⟨hF, hm⟩
    · rw [MH.set_ne hb] at e
      obtain ⟨m1, m2⟩ := R.mem b o e
      exact ⟨m1, m2.mono (Same.refl F) (upd_ne hb)⟩
/-- an object that may change is written -/
theorem RS0.write (R : RS0 K T F A H) {p : Addr} {u : HO} {m m0 : MO} (h : A p = some m0) (hm : MoRep K F (upd H p u) p m) : RS0 K T F (A.set p m) (upd H p u) := by
  obtain ⟨hF, h0⟩ := R.mem p m0 h
  obtain ⟨u0, hu0, pu0, _⟩ := h0.there
  refine ⟨fun b o e => ?_, fun b o e => ?_, tabs_keep R.tab fun b o e pn => ?_, R.pl⟩
  · rw [upd_ne (ne_of_none e hF)]; exact R.sub _ _ e
  · by_cases hb : b = p
    · subst hb; rw [MH.set_same] at e; cases e; exact ⟨hF, hm⟩
    · rw [MH.set_ne hb] at e
      obtain ⟨m1, m2⟩ := R.mem b o e
      exact ⟨m1, m2.mono (Same.refl F) (upd_ne hb)⟩
  · rw [upd_ne (fun z => by subst z; rw [hu0] at e; cases e; exact pn pu0)]; exact e
theorem RS0.del (R : RS0 K T F A H) (p : Addr) : RS0 K T F (A.del p) H :=
  ⟨R.sub, fun b o e => by
    by_cases hb : b = p
    · subst hb; rw [MH.del_same] at e; cases e
    · rw [MH.del_ne hb] at e; exact R.mem b o e, R.tab, R.pl⟩
/-- an object that may change changes no more -/
theorem RS0.freeze (R : RS0 K T F A H) {p : Addr} {u : HO} {m : MO} (h : A p = some m) (hu : H p = some u) : RS0 K T (upd F p u) (A.del p) H ∧ Same F (upd F p u) := by
  obtain ⟨hF, h0⟩ := R.mem p m h
  obtain ⟨u0, hu0, pu0, _⟩ := h0.there
  have eu : u = u0 := Option.some.inj (hu.symm.trans hu0)
  subst eu
  have sm : Same F (upd F p u) := fun b o e => by rw [upd_ne (ne_of_none e hF)]; exact e
  refine ⟨⟨fun b o e => ?_, fun b o e => ?_, R.tab, fun b o e => ?_⟩, sm⟩
  · by_cases hb : b = p
    · subst hb; rw [upd_same] at e; rw [hu]; exact e
    · rw [upd_ne hb] at e; exact R.sub _ _ e
  · by_cases hb : b = p
    · subst hb; rw [MH.del_same] at e; cases e
    · rw [MH.del_ne hb] at e
      obtain ⟨m1, m2⟩ := R.mem b o e
      exact ⟨by rw [upd_ne hb]; exact m1, m2.mono sm rfl⟩
  · by_cases hb : b = p
    · subst hb; rw [upd_same] at e; cases e; exact pu0.plain
    · rw [upd_ne hb] at e; exact R.pl _ _ e
/-- .. locked: a dict -/
theorem RS0.freezeD (R : RS0 K T F A H) {p : Addr} {u : HO} {m : MO} (o : Obj) (h : A p = some m) (hu : H p = some u) : RS0 K T (upd F p (.frz o u)) (A.del p) (upd H p (.frz o u)) ∧ Same F (upd F p (.frz o u)) := by
  obtain ⟨hF, h0⟩ := R.mem p m h
  obtain ⟨u0, hu0, pu0, _⟩ := h0.there
  have sm : Same F (upd F p (.frz o u)) := fun b x e => by rw [upd_ne (ne_of_none e hF)]; exact e
  refine ⟨⟨fun b x e => ?_, fun b x e => ?_, tabs_keep R.tab fun b x e pn => ?_, fun b x e => ?_⟩, sm⟩
  · by_cases hb : b = p
    · subst hb; rw [upd_same] at e ⊢; exact e
    · rw [upd_ne hb] at e ⊢; exact R.sub _ _ e
  · by_cases hb : b = p
    · subst hb; rw [MH.del_same] at e; cases e
    · rw [MH.del_ne hb] at e
      obtain ⟨m1, m2⟩ := R.mem b x e
      exact ⟨by rw [upd_ne hb]; exact m1, m2.mono sm (upd_ne hb)⟩
  · rw [upd_ne (fun z => by subst z; rw [hu0] at e; cases e; exact pn pu0)]; exact e
  · by_cases hb : b = p
    · subst hb; rw [upd_same] at e; cases e; trivial
    · rw [upd_ne hb] at e; exact R.pl _ _ e
end
end

/-- from one state to another: what is frozen stays, what may not be written stays as it is -/
structure Go0 (K : PySem.W.Frag) (T : List (Addr × Str)) (F : Hp) (A : MH) (H : Hp) (F' : Hp) (A' : MH) (H' : Hp) : Prop where
  ext : Same F F'
  rs : RS0 K T F' A' H'
  kp : ∀ b u, H b = some u → A b = none → Plain u → H' b = some u ∧ A' b = none ∧ (F b = none → F' b = none)
section
variable {K : PySem.W.Frag} {T : List (Addr × Str)} {F F1 F2 : Hp} {A A1 A2 : MH} {H H1 H2 : Hp}
theorem RS0.go (R : RS0 K T F A H) : Go0 K T F A H F A H := ⟨Same.refl F, R, fun b u e n _ => ⟨e, n, fun z => z⟩⟩
theorem Go0.trans (a : Go0 K T F A H F1 A1 H1) (b : Go0 K T F1 A1 H1 F2 A2 H2) : Go0 K T F A H F2 A2 H2 :=
  ⟨a.ext.trans b.ext, b.rs, fun x u e n p => let ⟨h1, n1, f1⟩ := a.kp x u e n p; let ⟨h2, n2, f2⟩ := b.kp x u h1 n1 p; ⟨h2, n2, fun z => f2 (f1 z)⟩⟩
theorem RS0.goF (R : RS0 K T F A H) {p : Addr} {u : HO} (h : H p = none) (pu : Plain u) : Go0 K T F A H (upd F p u) A (upd H p u) :=
  ⟨(R.newF h pu).2, (R.newF h pu).1, fun b o e n _ => ⟨by rw [upd_ne (ne_of_none e h)]; exact e, n, fun z => by rw [upd_ne (ne_of_none e h)]; exact z⟩⟩
theorem RS0.goM (R : RS0 K T F A H) {p : Addr} {u : HO} {m : MO} (h : H p = none) (hm : MoRep K F (upd H p u) p m) : Go0 K T F A H F (A.set p m) (upd H p u) :=
  ⟨Same.refl F, R.newM h hm, fun b o e n _ => ⟨by rw [upd_ne (ne_of_none e h)]; exact e, by rw [MH.set_ne (ne_of_none e h)]; exact n, fun z => z⟩⟩
theorem RS0.goW (R : RS0 K T F A H) {p : Addr} {u : HO} {m m0 : MO} (h : A p = some m0) (hm : MoRep K F (upd H p u) p m) : Go0 K T F A H F (A.set p m) (upd H p u) :=
  ⟨Same.refl F, R.write h hm, fun b o e n _ => by
    have hb : b ≠ p := fun z => by subst z; rw [h] at n; cases n
    exact ⟨by rw [upd_ne hb]; exact e, by rw [MH.set_ne hb]; exact n, fun z => z⟩⟩
theorem RS0.goDel (R : RS0 K T F A H) (p : Addr) : Go0 K T F A H F (A.del p) H :=
  ⟨Same.refl F, R.del p, fun b o e n _ => ⟨e, by
    by_cases hb : b = p
    · subst hb; exact MH.del_same
    · rw [MH.del_ne hb]; exact n, fun z => z⟩⟩
theorem RS0.goFz (R : RS0 K T F A H) {p : Addr} {u : HO} {m : MO} (h : A p = some m) (hu : H p = some u) : Go0 K T F A H (upd F p u) (A.del p) H :=
  ⟨(R.freeze h hu).2, (R.freeze h hu).1, fun b o e n _ => by
    have hb : b ≠ p := fun z => by subst z; rw [h] at n; cases n
    exact ⟨e, by rw [MH.del_ne hb]; exact n, fun z => by rw [upd_ne hb]; exact z⟩⟩
theorem RS0.goFzD (R : RS0 K T F A H) {p : Addr} {u : HO} {m : MO} (o : Obj) (h : A p = some m) (hu : H p = some u) : Go0 K T F A H (upd F p (.frz o u)) (A.del p) (upd H p (.frz o u)) :=
  ⟨(R.freezeD o h hu).2, (R.freezeD o h hu).1, fun b x e n _ => by
    have hb : b ≠ p := fun z => by subst z; rw [h] at n; cases n
    exact ⟨by rw [upd_ne hb]; exact e, by rw [MH.del_ne hb]; exact n, fun z => by rw [upd_ne hb]; exact z⟩⟩
/-- an object beside: neither frozen nor to be changed so far -/
theorem RS0.beside (R : RS0 K T F A H) {p : Addr} {u : HO} (h : H p = none) : RS0 K T F A (upd H p u) := by
  have hF := (R.free h).1
  refine ⟨fun b o e => by rw [upd_ne (ne_of_none e hF)]; exact R.sub _ _ e, fun b o e => ?_, tabs_keep R.tab fun b o e _ => by rw [upd_ne (ne_of_none e h)]; exact e, R.pl⟩
  obtain ⟨m1, m2⟩ := R.mem b o e
  obtain ⟨x, hx, _⟩ := m2.there
  exact ⟨m1, m2.mono (Same.refl F) (upd_ne (ne_of_none hx h))⟩
theorem RS0.aside (R : RS0 K T F A H) {p : Addr} {u u0 : HO} (hF : F p = none) (hA : A p = none) (h : H p = some u0) (pu : Wr u0) : RS0 K T F A (upd H p u) := by
  refine ⟨fun b o e => by rw [upd_ne (ne_of_none e hF)]; exact R.sub _ _ e, fun b o e => ?_, tabs_keep R.tab fun b o e pn => by rw [upd_ne (fun z => by subst z; rw [h] at e; cases e; exact pn pu)]; exact e, R.pl⟩
  obtain ⟨m1, m2⟩ := R.mem b o e
  exact ⟨m1, m2.mono (Same.refl F) (upd_ne (fun z => by subst z; rw [hA] at e; cases e))⟩
theorem Go0.beside (G : Go0 K T F A H F1 A1 H1) {p : Addr} {u : HO} (h : H1 p = none) : Go0 K T F A H F1 A1 (upd H1 p u) :=
  ⟨G.ext, G.rs.beside h, fun b x e n pl => let ⟨h1, n1, f1⟩ := G.kp b x e n pl; ⟨by rw [upd_ne (ne_of_none h1 h)]; exact h1, n1, f1⟩⟩
theorem Go0.aside (G : Go0 K T F A H F1 A1 H1) {p : Addr} {u u0 : HO} (hn : H p = none) (hF : F1 p = none) (hA : A1 p = none) (h : H1 p = some u0) (pu : Wr u0) : Go0 K T F A H F1 A1 (upd H1 p u) :=
  ⟨G.ext, G.rs.aside hF hA h pu, fun b x e n pl => let ⟨h1, n1, f1⟩ := G.kp b x e n pl; ⟨by rw [upd_ne (ne_of_none e hn)]; exact h1, n1, f1⟩⟩
theorem Go0.own (G : Go0 K T F A H F1 A1 H1) {p : Addr} {m : MO} (hn : H p = none) (hF : F1 p = none) (hm : MoRep K F1 H1 p m) : Go0 K T F A H F1 (A1.set p m) H1 := by
  refine ⟨G.ext, ⟨G.rs.sub, fun b o e => ?_, G.rs.tab, G.rs.pl⟩, fun b x e n pl => let ⟨h1, n1, f1⟩ := G.kp b x e n pl; ⟨h1, by rw [MH.set_ne (ne_of_none e hn)]; exact n1, f1⟩⟩
  by_cases hb : b = p
  · subst hb; rw [MH.set_same] at e; cases e; exact ⟨hF, hm⟩
  · rw [MH.set_ne hb] at e; exact G.rs.mem b o e
theorem Go0.froze (G : Go0 K T F A H F1 A1 H1) {p : Addr} {u : HO} (hn : H p = none) (hF : F1 p = none) (hA : A1 p = none) (hu : H1 p = some u) (pu : Plain u) : Go0 K T F A H (upd F1 p u) A1 H1 ∧ Same F1 (upd F1 p u) := by
  have sm : Same F1 (upd F1 p u) := fun b x e => by rw [upd_ne (ne_of_none e hF)]; exact e
  refine ⟨⟨G.ext.trans sm, ⟨fun b o e => ?_, fun b o e => ?_, G.rs.tab, fun b o e => ?_⟩, fun b x e n pl => let ⟨h1, n1, f1⟩ := G.kp b x e n pl; ⟨h1, n1, fun z => by rw [upd_ne (ne_of_none e hn)]; exact f1 z⟩⟩, sm⟩
  · by_cases hb : b = p
    · subst hb; rw [upd_same] at e; rw [hu]; exact e
    · rw [upd_ne hb] at e; exact G.rs.sub _ _ e
  · have hb : b ≠ p := fun z => by subst z; rw [hA] at e; cases e
    obtain ⟨m1, m2⟩ := G.rs.mem b o e
    exact ⟨by rw [upd_ne hb]; exact m1, m2.mono sm rfl⟩
  · by_cases hb : b = p
    · subst hb; rw [upd_same] at e; cases e; exact pu
    · rw [upd_ne hb] at e; exact G.rs.pl _ _ e
end

/-! ### with the wish for what is raised -/
abbrev XKQ := Addr → List (Str × D) → MH → Prop
/-- T: the code tables, what is wished of an exception (its class, its dict), the same over data -/
structure Tz where
  tb : List (Addr × Str)
  xe : XK := fun _ _ _ => False
  x2 : XKQ := fun _ _ _ => False
  /-- what else holds of the frozen part -/
  iv : Hp → Prop := fun _ => True
  mono : ∀ {F F' : Hp}, Same F F' → iv F → iv F' := by exact fun _ h => h
/-- the fields of an exception whose dict is d -/
def XD (K : PySem.W.Frag) (F : Hp) (d : Option Addr) (fs : List (Str × D)) : Prop := fs = [] ∨ ∃ dx vs, d = some dx ∧ F dx = some (.xd vs) ∧ FsRep K F vs fs
def XRel (K : PySem.W.Frag) (T : Tz) (F : Hp) (A : MH) (H : Hp) : Prop := T.iv F ∧ ∀ C fs d A' H' F', T.x2 C fs A' → Go0 K T.tb F A H F' A' H' → XD K F' d fs → T.xe (.ref C) d H'
theorem XRel.mono {K : PySem.W.Frag} {T : Tz} {F F1 : Hp} {A A1 : MH} {H H1 : Hp} (x : XRel K T F A H) (g : Go0 K T.tb F A H F1 A1 H1) : XRel K T F1 A1 H1 :=
  ⟨T.mono g.ext x.1, fun C fs d A' H' F' p g2 r => x.2 C fs d A' H' F' p (g.trans g2) r⟩
structure RS (K : PySem.W.Frag) (T : Tz) (F : Hp) (A : MH) (H : Hp) : Prop where
  r0 : RS0 K T.tb F A H
  xr : XRel K T F A H
structure Go (K : PySem.W.Frag) (T : Tz) (F : Hp) (A : MH) (H : Hp) (F' : Hp) (A' : MH) (H' : Hp) : Prop where
  g0 : Go0 K T.tb F A H F' A' H'
  x0 : XRel K T F A H
section
variable {K : PySem.W.Frag} {T : Tz} {F F1 F2 : Hp} {A A1 A2 : MH} {H H1 H2 : Hp}
theorem RS.sub (R : RS K T F A H) : Same F H := R.r0.sub
theorem RS.mem (R : RS K T F A H) : ∀ a o, A a = some o → F a = none ∧ MoRep K F H a o := R.r0.mem
theorem RS.tab (R : RS K T F A H) : LamX.Tabs T.tb H := R.r0.tab
theorem RS.pl (R : RS K T F A H) : ∀ a u, F a = some u → Plain u := R.r0.pl
theorem RS.free (R : RS K T F A H) {p : Addr} (h : H p = none) : F p = none ∧ A p = none := R.r0.free h
theorem Go.ext (g : Go K T F A H F1 A1 H1) : Same F F1 := g.g0.ext
theorem Go.rs (g : Go K T F A H F1 A1 H1) : RS K T F1 A1 H1 := ⟨g.g0.rs, g.x0.mono g.g0⟩
theorem Go.kp (g : Go K T F A H F1 A1 H1) : ∀ b u, H b = some u → A b = none → Plain u → H1 b = some u ∧ A1 b = none ∧ (F b = none → F1 b = none) := g.g0.kp
theorem RS.to (R : RS K T F A H) (g : Go0 K T.tb F A H F1 A1 H1) : Go K T F A H F1 A1 H1 := ⟨g, R.xr⟩
theorem RS.go (R : RS K T F A H) : Go K T F A H F A H := R.to R.r0.go
theorem Go.trans (a : Go K T F A H F1 A1 H1) (b : Go K T F1 A1 H1 F2 A2 H2) : Go K T F A H F2 A2 H2 := ⟨a.g0.trans b.g0, a.x0⟩
theorem RS.goF (R : RS K T F A H) {p : Addr} {u : HO} (h : H p = none) (pu : Plain u) : Go K T F A H (upd F p u) A (upd H p u) := R.to (R.r0.goF h pu)
theorem RS.goM (R : RS K T F A H) {p : Addr} {u : HO} {m : MO} (h : H p = none) (hm : MoRep K F (upd H p u) p m) : Go K T F A H F (A.set p m) (upd H p u) := R.to (R.r0.goM h hm)
theorem RS.goW (R : RS K T F A H) {p : Addr} {u : HO} {m m0 : MO} (h : A p = some m0) (hm : MoRep K F (upd H p u) p m) : Go K T F A H F (A.set p m) (upd H p u) := R.to (R.r0.goW h hm)
theorem RS.goDel (R : RS K T F A H) (p : Addr) : Go K T F A H F (A.del p) H := R.to (R.r0.goDel p)
theorem RS.goFz (R : RS K T F A H) {p : Addr} {u : HO} {m : MO} (h : A p = some m) (hu : H p = some u) : Go K T F A H (upd F p u) (A.del p) H := R.to (R.r0.goFz h hu)
theorem RS.goFzD (R : RS K T F A H) {p : Addr} {u : HO} {m : MO} (o : Obj) (h : A p = some m) (hu : H p = some u) : Go K T F A H (upd F p (.frz o u)) (A.del p) (upd H p (.frz o u)) := R.to (R.r0.goFzD o h hu)
theorem RS.goB (R : RS K T F A H) {p : Addr} {u : HO} (h : H p = none) : Go K T F A H F A (upd H p u) := R.to (R.r0.go.beside h)
theorem Go.beside (G : Go K T F A H F1 A1 H1) {p : Addr} {u : HO} (h : H1 p = none) : Go K T F A H F1 A1 (upd H1 p u) := ⟨G.g0.beside h, G.x0⟩
theorem Go.aside (G : Go K T F A H F1 A1 H1) {p : Addr} {u u0 : HO} (hn : H p = none) (hF : F1 p = none) (hA : A1 p = none) (h : H1 p = some u0) (pu : Wr u0) : Go K T F A H F1 A1 (upd H1 p u) := ⟨G.g0.aside hn hF hA h pu, G.x0⟩
theorem Go.own (G : Go K T F A H F1 A1 H1) {p : Addr} {m : MO} (hn : H p = none) (hF : F1 p = none) (hm : MoRep K F1 H1 p m) : Go K T F A H F1 (A1.set p m) H1 := ⟨G.g0.own hn hF hm, G.x0⟩
theorem Go.froze (G : Go K T F A H F1 A1 H1) {p : Addr} {u : HO} (hn : H p = none) (hF : F1 p = none) (hA : A1 p = none) (hu : H1 p = some u) (pu : Plain u) : Go K T F A H (upd F1 p u) A1 H1 ∧ Same F1 (upd F1 p u) :=
  ⟨⟨(G.g0.froze hn hF hA hu pu).1, G.x0⟩, (G.g0.froze hn hF hA hu pu).2⟩
/-- steps within which the heap below may have gone another way: from R's state, given the step's own facts -/
theorem RS.via (R : RS K T F A H) (g : Go0 K T.tb F A H F1 A1 H1) : RS K T F1 A1 H1 := (R.to g).rs
end

/-! ### slots -/
abbrev SQ := List (Option D)
inductive Rs (K : PySem.W.Frag) (F : Hp) : SQ → St → Prop
  | nil : Rs K F [] []
  | no {y : Option V} {xs : SQ} {ys : St} : Rs K F xs ys → Rs K F (none :: xs) (y :: ys)
  | yes {d : D} {v : V} {xs : SQ} {ys : St} : Rep K F v d → Rs K F xs ys → Rs K F (some d :: xs) (some v :: ys)
section
variable {K : PySem.W.Frag} {F F' : Hp}
theorem Rs.mono (e : Same F F') : ∀ {s : SQ} {σ : St}, Rs K F s σ → Rs K F' s σ
  | _, _, .nil => .nil
  | _, _, .no r => .no (Rs.mono e r)
  | _, _, .yes h r => .yes (h.mono e) (Rs.mono e r)
theorem Rs.get : ∀ {s : SQ} {σ : St} {i : Nat} {d : D}, Rs K F s σ → s[i]? = some (some d) → ∃ v, σ[i]? = some (some v) ∧ Rep K F v d
  | _, _, _, _, .nil, e => by simp at e
  | _, _, 0, _, .no r, e => by simp at e
  | _, _, 0, _, .yes h r, e => by simp at e; subst e; exact ⟨_, rfl, h⟩
  | _, _, i + 1, d, .no r, e => by
    obtain ⟨v, h1, h2⟩ := Rs.get (i := i) (d := d) r (by simpa using e)
    exact ⟨v, by simpa using h1, h2⟩
  | _, _, i + 1, d, .yes h r, e => by
    obtain ⟨v, h1, h2⟩ := Rs.get (i := i) (d := d) r (by simpa using e)
    exact ⟨v, by simpa using h1, h2⟩
theorem Rs.set {v : V} {d : D} (h : Rep K F v d) : ∀ {s : SQ} {σ : St} (i : Nat), Rs K F s σ → Rs K F (s.set i (some d)) (σ.set i (some v))
  | _, _, _, .nil => .nil
  | _, _, 0, .no r => .yes h r
  | _, _, 0, .yes q r => .yes h r
  | _, _, i + 1, .no r => .no (Rs.set h i r)
  | _, _, i + 1, .yes q r => .yes q (Rs.set h i r)
theorem Rs.forget : ∀ {s : SQ} {σ : St} (i : Nat) (y : Option V), Rs K F s σ → Rs K F (s.set i none) (σ.set i y)
  | _, _, _, _, .nil => .nil
  | _, _, 0, _, .no r => .no r
  | _, _, 0, _, .yes q r => .no r
  | _, _, i + 1, y, .no r => .no (Rs.forget i y r)
  | _, _, i + 1, y, .yes q r => .yes q (Rs.forget i y r)
end
end Qd


set_option Elab.async false
set_option linter.all false
set_option maxRecDepth 100000
set_option maxHeartbeats 4000000
/-! Second layer, part B: readings over data (TQ ..), what they mean (lift ..), judgements PQ, PTQ, PAQ. -/
namespace Qd
open PySem L2

abbrev KQ := D → MH → Prop
abbrev TQ := SQ → MH → KQ → Prop
abbrev TTQ := SQ → MH → (Bool → MH → Prop) → Prop
abbrev TAQ := SQ → MH → (List D → MH → Prop) → Prop
abbrev R2Q := D → D → MH → KQ → Prop
abbrev R1Q := D → MH → KQ → Prop
abbrev RNQ := List D → MH → KQ → Prop

section
variable (K : PySem.W.Frag) (T : Tz)
def lift (t : TQ) : TE := fun σ H Q => ∃ F A s, Rs K F s σ ∧ RS K T F A H ∧ ∃ P : KQ, t s A P ∧ ∀ d A' v H' F', P d A' → Go K T F A H F' A' H' → Rep K F' v d → Q v H'
def liftT (t : TTQ) : TT := fun σ H Q => ∃ F A s, Rs K F s σ ∧ RS K T F A H ∧ ∃ P : Bool → MH → Prop, t s A P ∧ ∀ b A' H' F', P b A' → Go K T F A H F' A' H' → Q b H'
def liftA (t : TAQ) : TA := fun σ H Q => ∃ F A s, Rs K F s σ ∧ RS K T F A H ∧ ∃ P : List D → MH → Prop, t s A P ∧ ∀ ds A' vs H' F', P ds A' → Go K T F A H F' A' H' → Reps K F' vs ds → Q vs H'
/-- an operation on two values, on one, a call -/
def Rel2 (R : R2) (r : R2Q) : Prop := ∀ {F A H x y xv yv} {P : KQ} {Q : VK}, RS K T F A H → Rep K F xv x → Rep K F yv y → r x y A P → (∀ d A' v H' F', P d A' → Go K T F A H F' A' H' → Rep K F' v d → Q v H') → R xv yv H Q
def Rel1 (R : V → Hp → VK → Prop) (r : R1Q) : Prop := ∀ {F A H x xv} {P : KQ} {Q : VK}, RS K T F A H → Rep K F xv x → r x A P → (∀ d A' v H' F', P d A' → Go K T F A H F' A' H' → Rep K F' v d → Q v H') → R xv H Q
def RelN (R : List V → Hp → VK → Prop) (r : RNQ) : Prop := ∀ {F A H xs xv} {P : KQ} {Q : VK}, RS K T F A H → Reps K F xv xs → r xs A P → (∀ d A' v H' F', P d A' → Go K T F A H F' A' H' → Rep K F' v d → Q v H') → R xv H Q
end

structure PQ (X : Cx) (T : Tz) (e : Expr) (t : TQ) : Prop where
  pe : PE X e (lift X.K T t)
structure PTQ (X : Cx) (T : Tz) (e : Expr) (t : TTQ) : Prop where
  pt : PT X e (liftT X.K T t)
structure PWQ (X : Cx) (T : Tz) (e : Expr) (t : TTQ) : Prop where
  pw : PW X e (liftT X.K T t)
structure PAQ (X : Cx) (T : Tz) (es : List Expr) (t : TAQ) : Prop where
  pa : PA X es (liftA X.K T t)
theorem PWQ.pt {X : Cx} {T : Tz} {e : Expr} {t : TTQ} (h : PWQ X T e t) : PTQ X T e t := ⟨h.pw.pt⟩

/-! weaker readings -/
theorem _root_.L2.PE.wk {X : Cx} {e : Expr} {t u : TE} (h : PE X e t) (w : ∀ σ H Q, u σ H Q → t σ H Q) : PE X e u := ⟨fun pins s σ H Q I q => h.run pins s σ H Q I (w _ _ _ q)⟩
theorem _root_.L2.PT.wk {X : Cx} {e : Expr} {t u : TT} (h : PT X e t) (w : ∀ σ H Q, u σ H Q → t σ H Q) : PT X e u := ⟨fun pins s σ H Q I q => h.run pins s σ H Q I (w _ _ _ q)⟩
theorem _root_.L2.PW.wk {X : Cx} {e : Expr} {t u : TT} (h : PW X e t) (w : ∀ σ H Q, u σ H Q → t σ H Q) : PW X e u := ⟨fun wh pins s σ H Q I q => h.run wh pins s σ H Q I (w _ _ _ q)⟩
theorem _root_.L2.PA.wk {X : Cx} {e : List Expr} {t u : TA} (h : PA X e t) (w : ∀ σ H Q, u σ H Q → t σ H Q) : PA X e u := ⟨fun pos pins s σ H Q I q => h.run pos pins s σ H Q I (w _ _ _ q)⟩
theorem _root_.L2.PS.wk {X : Cx} {e : Stmt} {t u : TS} (h : PS X e t) (w : ∀ D σ H, u D σ H → t D σ H) : PS X e u := ⟨fun pins s σ H D I q => h.run pins s σ H D I (w _ _ _ q)⟩
theorem _root_.L2.PSs.wk {X : Cx} {e : List Stmt} {t u : TS} (h : PSs X e t) (w : ∀ D σ H, u D σ H → t D σ H) : PSs X e u := ⟨fun pins s σ H D I q => h.run pins s σ H D I (w _ _ _ q)⟩
/-- behind an expression a ghost step -/
theorem _root_.L2.PE.ghost {X : Cx} {e : Expr} {t u : TE} (h : PE X e t) (w : ∀ pins σ H Q, u σ H Q → t σ H fun v H1 => ∀ s, Inv X pins σ H1 s → ∃ H2, Inv X pins σ H2 s ∧ Q v H2) : PE X e u := ⟨fun pins s σ H Q I q =>
  thn (h.run pins s σ H _ I (w pins σ H Q q)) fun v s1 ⟨x, H1, I1, r1, q1⟩ => by
    obtain ⟨H2, I2, q2⟩ := q1 s1 I1
    exact ⟨x, H2, I2, r1, q2⟩⟩

section
variable {X : Cx} {T : Tz} {a b c : Expr} {ta tb tc : TQ} {pos : Pos}
/-! ### names, constants -/
def qVar (i : Nat) : TQ := fun s A P => match s[i]? with | some (some d) => P d A | _ => False
def qC (d : D) : TQ := fun _ A P => P d A
theorem liftC {K : PySem.W.Frag} {d : D} {v : V} (hv : ∀ F, Rep K F v d) (σ : St) (H : Hp) (Q : VK) (h : lift K T (qC d) σ H Q) : tC v σ H Q := by
  obtain ⟨F, A, s, hs, hR, P, ht, k⟩ := h
  exact k d A v H F ht hR.go (hv F)
theorem qv (i : Nat) {x : Str} (hN : X.N[i]? = some x := by rfl) (hv : Vis X.env.scope x := by first | exact Or.inl rfl | exact Or.inr (Or.inl rfl) | exact Or.inr (Or.inr rfl)) (hd : (x == ("__debug__" : Str)) = false := by decide)
    (hcd : (x == ("__classdict__" : Str)) = false := by decide) : PQ X T (.Name x pos) (qVar i) := ⟨(pe_var hN hv hd hcd).wk fun σ H Q h => by
  obtain ⟨F, A, s, hs, hR, P, ht, k⟩ := h
  unfold qVar at ht
  split at ht
  · rename_i d e
    obtain ⟨v, e1, r1⟩ := hs.get e
    exact ⟨v, e1, k d A v H F ht hR.go r1⟩
  · exact ht.elim⟩
theorem pq_int {i j} : PQ X T (.Constant (.int i) j pos) (qC (.int i)) := ⟨pe_int.wk (liftC fun _ => .int i)⟩
theorem pq_bl {i j} : PQ X T (.Constant (.bool i) j pos) (qC (.bl i)) := ⟨pe_bl.wk (liftC fun _ => .bl i)⟩
theorem pq_non {j} : PQ X T (.Constant .none j pos) (qC .non) := ⟨pe_non.wk (liftC fun _ => .non)⟩
theorem pq_str {i j} : PQ X T (.Constant (.str i) j pos) (qC (.str i)) := ⟨pe_str.wk (liftC fun _ => .str i)⟩
/-- a module's text constant -/
theorem pq_gstr {x z : Str} {t : Tok} (hm : X.mg x = some (.str z t)) (hg : Gl X x := by rfl) (hd : (x == ("__debug__" : Str)) = false := by decide) : PQ X T (.Name x pos) (qC (.str z)) :=
  ⟨(pe_glob (v := .str z) hg hm ⟨t, rfl⟩ hd).wk (liftC fun _ => .str z)⟩
/-- a built-in class as a value -/
theorem pq_ty {x : Str} {n : String} (hm : X.mg x = none) (hv : bootBuiltins x = some (.type n) := by decide +kernel) (hg : Gl X x := by rfl) (hn : x ≠ "__name__" := by decide) (hd : (x == ("__debug__" : Str)) = false := by decide) : PQ X T (.Name x pos) (qC (.ty n)) :=
  ⟨(pe_bltn (v := .ty n) hg hm hv rfl hn hd).wk (liftC fun _ => .ty n)⟩

/-! ### operators -/
def qOp (r : R2Q) (ta tb : TQ) : TQ := fun s A P => ta s A fun x A1 => tb s A1 fun y A2 => r x y A2 P
theorem lift_op {K : PySem.W.Frag} {R : R2} {r : R2Q} (rel : Rel2 K T R r) {σ : St} {H : Hp} {Q : VK} (h : lift K T (qOp r ta tb) σ H Q) : tOp R (lift K T ta) (lift K T tb) σ H Q := by
  obtain ⟨F, A, s, hs, hR, P, ht, k⟩ := h
  refine ⟨F, A, s, hs, hR, _, ht, fun x A1 xv H1 F1 p1 g1 r1 => ?_⟩
  refine ⟨F1, A1, s, hs.mono g1.ext, g1.rs, _, p1, fun y A2 yv H2 F2 p2 g2 r2 => ?_⟩
  exact rel g2.rs (r1.mono g2.ext) r2 p2 fun d A' v H' F' p g rr => k d A' v H' F' p ((g1.trans g2).trans g) rr
theorem pq_op {op : Operator} {R : R2} {r : R2Q} (rel : Rel2 X.K T R r) (ho : OpR X (binaryOp op) R) (ha : PQ X T a ta) (hb : PQ X T b tb) : PQ X T (.BinOp a op b pos) (qOp r ta tb) :=
  ⟨(pe_op ho ha.pe hb.pe).wk fun _ _ _ h => lift_op rel h⟩
def qUn (r : R1Q) (ta : TQ) : TQ := fun s A P => ta s A fun x A1 => r x A1 P
theorem lift_un {K : PySem.W.Frag} {R : V → Hp → VK → Prop} {r : R1Q} (rel : Rel1 K T R r) {σ : St} {H : Hp} {Q : VK} (h : lift K T (qUn r ta) σ H Q) : tUn R (lift K T ta) σ H Q := by
  obtain ⟨F, A, s, hs, hR, P, ht, k⟩ := h
  refine ⟨F, A, s, hs, hR, _, ht, fun x A1 xv H1 F1 p1 g1 r1 => ?_⟩
  exact rel g1.rs r1 p1 fun d A' v H' F' p g rr => k d A' v H' F' p (g1.trans g) rr
theorem pq_un {op : UnaryOp} {R : V → Hp → VK → Prop} {r : R1Q} (rel : Rel1 X.K T R r) (ho : UnR X (unaryOp op) R) (ha : PQ X T a ta) : PQ X T (.UnaryOp op a pos) (qUn r ta) :=
  ⟨(pe_un ho ha.pe).wk fun _ _ _ h => lift_un rel h⟩
theorem pq_cmp {op : CmpOp} {R : R2} {r : R2Q} (rel : Rel2 X.K T R r) (ho : OpR X (compareOp op) R) (ha : PQ X T a ta) (hb : PQ X T b tb) (hm : behindInMarks op b = false) : PQ X T (.Compare a [op] [b] pos) (qOp r ta tb) :=
  ⟨(pe_cmpR ho ha.pe hb.pe hm).wk fun _ _ _ h => lift_op rel h⟩
/-- a value as a test -/
def qTest (t : TQ) : TTQ := fun s A P => t s A fun x A1 => match x with | .bl k => P k A1 | _ => False
theorem lift_test {K : PySem.W.Frag} {t : TQ} {u : TE} (hu : ∀ {σ H Q}, lift K T t σ H Q → u σ H Q) {σ : St} {H : Hp} {Q : Bool → Hp → Prop} (h : liftT K T (qTest t) σ H Q) : u σ H fun x H' => ∃ k, x = .bl k ∧ Q k H' := by
  obtain ⟨F, A, s, hs, hR, P, ht, k⟩ := h
  refine hu ⟨F, A, s, hs, hR, _, ht, fun x A1 xv H1 F1 p1 g1 r1 => ?_⟩
  cases x <;> first | exact False.elim p1 | skip
  cases r1
  exact ⟨_, rfl, k _ _ _ _ p1 g1⟩
theorem ptq_cmp {op : CmpOp} {R : R2} {r : R2Q} (rel : Rel2 X.K T R r) (ho : OpR X (compareOp op) R) (ha : PQ X T a ta) (hb : PQ X T b tb) (hm : behindInMarks op b = false) : PTQ X T (.Compare a [op] [b] pos) (qTest (qOp r ta tb)) :=
  ⟨(pt_cmpR ho ha.pe hb.pe hm).wk fun _ _ _ h => lift_test (u := tOp R (lift X.K T ta) (lift X.K T tb)) (fun h => lift_op rel h) h⟩
/-- a op1 b op2 c -/
def qChain (r r' : R2Q) (ta tb tc : TQ) : TQ := fun s A P => ta s A fun x A1 => tb s A1 fun y A2 => r x y A2 fun z A3 => match z with | .bl true => tc s A3 fun w A4 => r' y w A4 P | .bl false => P (.bl false) A3 | _ => False
theorem lift_chain {K : PySem.W.Frag} {R R' : R2} {r r' : R2Q} (rel : Rel2 K T R r) (rel' : Rel2 K T R' r') {σ : St} {H : Hp} {Q : VK} (h : lift K T (qChain r r' ta tb tc) σ H Q) : tChain R R' (lift K T ta) (lift K T tb) (lift K T tc) σ H Q := by
  obtain ⟨F, A, s, hs, hR, P, ht, k⟩ := h
  refine ⟨F, A, s, hs, hR, _, ht, fun x A1 xv H1 F1 p1 g1 r1 => ?_⟩
  refine ⟨F1, A1, s, hs.mono g1.ext, g1.rs, _, p1, fun y A2 yv H2 F2 p2 g2 r2 => ?_⟩
  refine rel g2.rs (r1.mono g2.ext) r2 p2 fun z A3 zv H3 F3 p3 g3 r3 => ?_
  cases z with
  | bl kk =>
    cases r3
    refine ⟨kk, rfl, ?_⟩
    cases kk with
    | true =>
      rw [if_pos rfl]
      refine ⟨F3, A3, s, hs.mono ((g1.trans g2).trans g3).ext, g3.rs, _, p3, fun w A4 wv H4 F4 p4 g4 r4 => ?_⟩
      exact rel' g4.rs (r2.mono (g3.trans g4).ext) r4 p4 fun d A' v H' F' p g rr => k d A' v H' F' p ((((g1.trans g2).trans g3).trans g4).trans g) rr
    | false =>
      rw [if_neg Bool.false_ne_true]
      exact k _ _ _ _ _ p3 ((g1.trans g2).trans g3) (.bl false)
  | _ => exact False.elim p3
theorem pq_chain {op op' : CmpOp} {R R' : R2} {r r' : R2Q} (rel : Rel2 X.K T R r) (rel' : Rel2 X.K T R' r') (ho : OpR X (compareOp op) R) (ho' : OpR X (compareOp op') R') (ha : PQ X T a ta) (hb : PQ X T b tb) (hc : PQ X T c tc)
    (hm : lastMarks [op, op'] [b, c] = false := by rfl) : PQ X T (.Compare a [op, op'] [b, c] pos) (qChain r r' ta tb tc) :=
  ⟨(pe_chain ho ho' ha.pe hb.pe hc.pe hm).wk fun _ _ _ h => lift_chain rel rel' h⟩
theorem ptq_chain {op op' : CmpOp} {R R' : R2} {r r' : R2Q} (rel : Rel2 X.K T R r) (rel' : Rel2 X.K T R' r') (ho : OpR X (compareOp op) R) (ho' : OpR X (compareOp op') R') (ha : PQ X T a ta) (hb : PQ X T b tb) (hc : PQ X T c tc)
    (hm : lastMarks [op, op'] [b, c] = false := by rfl) : PTQ X T (.Compare a [op, op'] [b, c] pos) (qTest (qChain r r' ta tb tc)) :=
  ⟨(pt_chain ho ho' ha.pe hb.pe hc.pe hm).wk fun _ _ _ h => lift_test (u := tChain R R' (lift X.K T ta) (lift X.K T tb) (lift X.K T tc)) (fun h => lift_chain rel rel' h) h⟩

/-! ### tests, and, or, not -/
/-- an expression that gives True or False -/
theorem ptq_val {t : TQ} {e : Expr} (h : PQ X T e t) (he : ∀ whole, isTrue e X.env whole = (do let v ← whole; standAt e.pos; holding [v] (truthy v)) := by intro _; rfl) : PTQ X T e (qTest t) :=
  ⟨(pt_val h.pe he).wk fun _ _ _ h => lift_test (u := lift X.K T t) (fun h => h) h⟩
variable {tA tB : TTQ} {rest : List Expr}
def qAnd (t u : TTQ) : TTQ := fun s A P => t s A fun k A1 => if k = true then u s A1 P else P false A1
def qOr (t u : TTQ) : TTQ := fun s A P => t s A fun k A1 => if k = true then P true A1 else u s A1 P
def qNot (t : TTQ) : TTQ := fun s A P => t s A fun k A1 => P (!k) A1
theorem pwq_and1 (ha : PTQ X T a tA) : PWQ X T (.BoolOp .And [a] pos) tA := ⟨pw_and1 ha.pt⟩
theorem pwq_or1 (ha : PTQ X T a tA) : PWQ X T (.BoolOp .Or [a] pos) tA := ⟨pw_or1 ha.pt⟩
theorem pwq_and (ha : PTQ X T a tA) (hb : PWQ X T (.BoolOp .And (b :: rest) pos) tB) : PWQ X T (.BoolOp .And (a :: b :: rest) pos) (qAnd tA tB) := ⟨(pw_and ha.pt hb.pw).wk fun σ H Q h => by
  obtain ⟨F, A, s, hs, hR, P, ht, k⟩ := h
  refine ⟨F, A, s, hs, hR, _, ht, fun c A1 H1 F1 p1 g1 => ?_⟩
  cases c with
  | true =>
    rw [if_pos rfl]
    rw [if_pos rfl] at p1
    exact ⟨F1, A1, s, hs.mono g1.ext, g1.rs, _, p1, fun c2 A2 H2 F2 p2 g2 => k _ _ _ _ p2 (g1.trans g2)⟩
  | false =>
    rw [if_neg Bool.false_ne_true]
    rw [if_neg Bool.false_ne_true] at p1
    exact k _ _ _ _ p1 g1⟩
theorem pwq_or (ha : PTQ X T a tA) (hb : PWQ X T (.BoolOp .Or (b :: rest) pos) tB) : PWQ X T (.BoolOp .Or (a :: b :: rest) pos) (qOr tA tB) := ⟨(pw_or ha.pt hb.pw).wk fun σ H Q h => by
  obtain ⟨F, A, s, hs, hR, P, ht, k⟩ := h
  refine ⟨F, A, s, hs, hR, _, ht, fun c A1 H1 F1 p1 g1 => ?_⟩
  cases c with
  | true =>
    rw [if_pos rfl]
    rw [if_pos rfl] at p1
    exact k _ _ _ _ p1 g1
  | false =>
    rw [if_neg Bool.false_ne_true]
    rw [if_neg Bool.false_ne_true] at p1
    exact ⟨F1, A1, s, hs.mono g1.ext, g1.rs, _, p1, fun c2 A2 H2 F2 p2 g2 => k _ _ _ _ p2 (g1.trans g2)⟩⟩
theorem ptq_not (ha : PTQ X T a tA) : PTQ X T (.UnaryOp .Not a pos) (qNot tA) := ⟨(pt_not ha.pt).wk fun σ H Q h => by
  obtain ⟨F, A, s, hs, hR, P, ht, k⟩ := h
  exact ⟨F, A, s, hs, hR, _, ht, fun c A1 H1 F1 p1 g1 => k _ _ _ _ p1 g1⟩⟩
def qAndV (ta tb : TQ) : TQ := fun s A P => ta s A fun x A1 => match x with | .bl true => tb s A1 P | .bl false => P (.bl false) A1 | _ => False
def qOrV (ta tb : TQ) : TQ := fun s A P => ta s A fun x A1 => match x with | .bl false => tb s A1 P | .bl true => P (.bl true) A1 | _ => False
def qNotV (ta : TQ) : TQ := fun s A P => ta s A fun x A1 => match x with | .bl k => P (.bl (!k)) A1 | _ => False
theorem pq_one {op} {t : TQ} (h : PQ X T a t) : PQ X T (.BoolOp op [a] pos) t := ⟨pe_one h.pe⟩
theorem pq_and (ha : PQ X T a ta) (hb : PQ X T (.BoolOp .And (b :: rest) pos) tb) : PQ X T (.BoolOp .And (a :: b :: rest) pos) (qAndV ta tb) := ⟨(pe_and ha.pe hb.pe).wk fun σ H Q h => by
  obtain ⟨F, A, s, hs, hR, P, ht, k⟩ := h
  refine ⟨F, A, s, hs, hR, _, ht, fun x A1 xv H1 F1 p1 g1 r1 => ?_⟩
  cases x with
  | bl c =>
    cases r1
    refine ⟨c, rfl, ?_⟩
    cases c with
    | true => exact ⟨F1, A1, s, hs.mono g1.ext, g1.rs, _, p1, fun y A2 yv H2 F2 p2 g2 r2 => k _ _ _ _ _ p2 (g1.trans g2) r2⟩
    | false => exact k _ _ _ _ _ p1 g1 (.bl _)
  | _ => exact False.elim p1⟩
theorem pq_or (ha : PQ X T a ta) (hb : PQ X T (.BoolOp .Or (b :: rest) pos) tb) : PQ X T (.BoolOp .Or (a :: b :: rest) pos) (qOrV ta tb) := ⟨(pe_or ha.pe hb.pe).wk fun σ H Q h => by
  obtain ⟨F, A, s, hs, hR, P, ht, k⟩ := h
  refine ⟨F, A, s, hs, hR, _, ht, fun x A1 xv H1 F1 p1 g1 r1 => ?_⟩
  cases x with
  | bl c =>
    cases r1
    refine ⟨c, rfl, ?_⟩
    cases c with
    | false => exact ⟨F1, A1, s, hs.mono g1.ext, g1.rs, _, p1, fun y A2 yv H2 F2 p2 g2 r2 => k _ _ _ _ _ p2 (g1.trans g2) r2⟩
    | true => exact k _ _ _ _ _ p1 g1 (.bl _)
  | _ => exact False.elim p1⟩
theorem pq_not (ha : PQ X T a ta) : PQ X T (.UnaryOp .Not a pos) (qNotV ta) := ⟨(pe_not ha.pe).wk fun σ H Q h => by
  obtain ⟨F, A, s, hs, hR, P, ht, k⟩ := h
  refine ⟨F, A, s, hs, hR, _, ht, fun x A1 xv H1 F1 p1 g1 r1 => ?_⟩
  cases x with
  | bl c =>
    cases r1
    exact ⟨c, rfl, k _ _ _ _ _ p1 g1 (.bl _)⟩
  | _ => exact False.elim p1⟩
def qIf (t : TTQ) (ta tb : TQ) : TQ := fun s A P => t s A fun k A1 => if k = true then ta s A1 P else tb s A1 P
theorem pq_if (hc : PTQ X T c tA) (ha : PQ X T a ta) (hb : PQ X T b tb) : PQ X T (.IfExp c a b pos) (qIf tA ta tb) := ⟨(pe_ifExp hc.pt ha.pe hb.pe).wk fun σ H Q h => by
  obtain ⟨F, A, s, hs, hR, P, ht, k⟩ := h
  refine ⟨F, A, s, hs, hR, _, ht, fun c A1 H1 F1 p1 g1 => ?_⟩
  cases c with
  | true =>
    rw [if_pos rfl]
    rw [if_pos rfl] at p1
    exact ⟨F1, A1, s, hs.mono g1.ext, g1.rs, _, p1, fun y A2 yv H2 F2 p2 g2 r2 => k _ _ _ _ _ p2 (g1.trans g2) r2⟩
  | false =>
    rw [if_neg Bool.false_ne_true]
    rw [if_neg Bool.false_ne_true] at p1
    exact ⟨F1, A1, s, hs.mono g1.ext, g1.rs, _, p1, fun y A2 yv H2 F2 p2 g2 r2 => k _ _ _ _ _ p2 (g1.trans g2) r2⟩⟩

/-! ### argument lists, displays, calls of built-ins by value -/
variable {e : Expr} {es : List Expr} {te : TQ} {t : TAQ}
def qNil : TAQ := fun _ A P => P [] A
def qCons (ta : TQ) (tr : TAQ) : TAQ := fun s A P => ta s A fun x A1 => tr s A1 fun xs A2 => P (x :: xs) A2
theorem lift_nil {K : PySem.W.Frag} {σ : St} {H : Hp} {Q : List V → Hp → Prop} (h : liftA K T qNil σ H Q) : tNil σ H Q := by
  obtain ⟨F, A, s, hs, hR, P, ht, k⟩ := h
  exact k _ _ _ _ _ ht hR.go .nil
theorem paq_nil : PAQ X T [] qNil := ⟨pa_nil.wk fun _ _ _ h => lift_nil h⟩
theorem lift_cons {K : PySem.W.Frag} {σ : St} {H : Hp} {Q : List V → Hp → Prop} (h : liftA K T (qCons te t) σ H Q) : tCons (lift K T te) (liftA K T t) σ H Q := by
  obtain ⟨F, A, s, hs, hR, P, ht, k⟩ := h
  refine ⟨F, A, s, hs, hR, _, ht, fun x A1 xv H1 F1 p1 g1 r1 => ?_⟩
  exact ⟨F1, A1, s, hs.mono g1.ext, g1.rs, _, p1, fun ys A2 yv H2 F2 p2 g2 r2 => k _ _ _ _ _ p2 (g1.trans g2) (.cons (r1.mono g2.ext) r2)⟩
theorem paq_cons (ha : PQ X T e te) (hr : PAQ X T es t) (hs : starEach (e :: es) X.env = (false, eval e X.env) :: starEach es X.env := by rfl) : PAQ X T (e :: es) (qCons te t) := ⟨(pa_cons ha.pe hr.pa hs).wk fun _ _ _ h => lift_cons h⟩
/-- the values of a call's arguments handed to a rule -/
def qCB (r : RNQ) (t : TAQ) : TQ := fun s A P => t s A fun xs A1 => r xs A1 P
theorem lift_cb {K : PySem.W.Frag} {R : List V → Hp → VK → Prop} {r : RNQ} (rel : RelN K T R r) {σ : St} {H : Hp} {Q : VK} (h : lift K T (qCB r t) σ H Q) : tCB R (liftA K T t) σ H Q := by
  obtain ⟨F, A, s, hs, hR, P, ht, k⟩ := h
  refine ⟨F, A, s, hs, hR, _, ht, fun x A1 xv H1 F1 p1 g1 r1 => ?_⟩
  exact rel g1.rs r1 p1 fun d A' v H' F' p g rr => k d A' v H' F' p (g1.trans g) rr
theorem pq_callB {x : Str} {id : String} {p : Pos} {R : List V → Hp → VK → Prop} {r : RNQ} (rel : RelN X.K T R r) (hc : CallR X (.builtin id) R) (hm : X.mg x = none) (ha : PAQ X T (e :: es) t) (hv : bootBuiltins x = some (.builtin id) := by decide +kernel) (hg : Gl X x := by rfl)
    (hn : x ≠ "__name__" := by decide) (hdb : (x == ("__debug__" : Str)) = false := by decide)
    (he : starEach (e :: es) X.env = (false, eval e X.env) :: starEach es X.env := by rfl) (hpl : (backTo pos (starEach es X.env)).any (·.1) = false := by rfl) : PQ X T (.Call (.Name x p) (e :: es) [] pos) (qCB r t) :=
  ⟨(pe_callB hc hg hm hv ha.pa hn hdb he hpl).wk fun _ _ _ h => lift_cb rel h⟩
theorem pq_callTy {x : Str} {id : String} {p : Pos} {R : List V → Hp → VK → Prop} {r : RNQ} (rel : RelN X.K T R r) (hc : CallR X (.type id) R) (hm : X.mg x = none) (ha : PAQ X T (e :: es) t) (hv : bootBuiltins x = some (.type id) := by decide +kernel) (hg : Gl X x := by rfl)
    (hn : x ≠ "__name__" := by decide) (hdb : (x == ("__debug__" : Str)) = false := by decide)
    (he : starEach (e :: es) X.env = (false, eval e X.env) :: starEach es X.env := by rfl) (hpl : (backTo pos (starEach es X.env)).any (·.1) = false := by rfl) : PQ X T (.Call (.Name x p) (e :: es) [] pos) (qCB r t) :=
  ⟨(pe_callTy hc hg hm hv ha.pa hn hdb he hpl).wk fun _ _ _ h => lift_cb rel h⟩

/-- what becomes of a new list: m: it may change; else it is frozen -/
def newL (m : Bool) (ds : List D) (A : MH) (P : KQ) : Prop := if m = true then ∀ a, A a = none → P (.mut a) (A.set a (.lst ds)) else P (.lst ds) A
theorem newL_ok {K : PySem.W.Frag} {m : Bool} {ds : List D} {A : MH} {P : KQ} {F : Hp} {H : Hp} {vs : List V} {p : Addr} {Q : VK} (R : RS K T F A H) (h : newL m ds A P) (r : Reps K F vs ds) (hp : H p = none)
    (k : ∀ d A' v H' F', P d A' → Go K T F A H F' A' H' → Rep K F' v d → Q v H') : Q (.ref p) (upd H p (.lst vs)) := by
  unfold newL at h
  cases m with
  | true =>
    rw [if_pos rfl] at h
    exact k _ _ _ _ F (h p (R.free hp).2) (R.goM hp ⟨vs, upd_same, r⟩) (.mut p)
  | false =>
    rw [if_neg Bool.false_ne_true] at h
    have g := R.goF (u := .lst vs) hp trivial
    exact k _ _ _ _ _ h g (.lst upd_same (r.mono g.ext))
def qTup (t : TAQ) : TQ := fun s A P => t s A fun xs A1 => xs.length ≤ 100000 ∧ P (.tup xs) A1
def qLst (m : Bool) (t : TAQ) : TQ := fun s A P => t s A fun xs A1 => xs.length ≤ 100000 ∧ newL m xs A1 P
theorem newT_ok {K : PySem.W.Frag} {ds : List D} {A : MH} {P : KQ} {F : Hp} {H : Hp} {vs : List V} {p : Addr} {Q : VK} (R : RS K T F A H) (h : P (.tup ds) A) (r : Reps K F vs ds) (hp : H p = none)
    (k : ∀ d A' v H' F', P d A' → Go K T F A H F' A' H' → Rep K F' v d → Q v H') : Q (.ref p) (upd H p (.tup vs)) := by
  have g := R.goF (u := .tup vs) hp trivial
  exact k _ _ _ _ _ h g (.tup (.of upd_same) (r.mono g.ext))
theorem pq_tup {x1} (h : PAQ X T es t) : PQ X T (.Tuple es x1 pos) (qTup t) := ⟨(pe_tup h.pa).wk fun σ H Q h => by
  obtain ⟨F, A, s, hs, hR, P, ht, k⟩ := h
  refine ⟨F, A, s, hs, hR, _, ht, fun xs A1 vs H1 F1 p1 g1 r1 => ⟨by rw [r1.length]; exact Evl.sz_of p1.1, fun p hp => ?_⟩⟩
  exact newT_ok g1.rs p1.2 r1 hp fun d A' v H' F' p g rr => k d A' v H' F' p (g1.trans g) rr⟩
theorem pq_lst (m : Bool) (h : PAQ X T es t) : PQ X T (.List es pos) (qLst m t) := ⟨(pe_lst h.pa).wk fun σ H Q h => by
  obtain ⟨F, A, s, hs, hR, P, ht, k⟩ := h
  refine ⟨F, A, s, hs, hR, _, ht, fun xs A1 vs H1 F1 p1 g1 r1 => ⟨by rw [r1.length]; exact Evl.sz_of p1.1, fun p hp => ?_⟩⟩
  exact newL_ok g1.rs p1.2 r1 hp fun d A' v H' F' p g rr => k d A' v H' F' p (g1.trans g) rr⟩
/-- a list that may change, frozen from here on -/
def qFz (t : TQ) : TQ := fun s A P => t s A fun d A1 => match d with
  | .mut a => match A1 a with
    | some (.lst ds) => P (.lst ds) (A1.del a)
    | _ => False
  | _ => False
theorem pq_fz {t : TQ} (h : PQ X T e t) : PQ X T e (qFz t) := ⟨h.pe.wk fun σ H Q h => by
  obtain ⟨F, A, s, hs, hR, P, ht, k⟩ := h
  refine ⟨F, A, s, hs, hR, _, ht, fun d A1 v H1 F1 p1 g1 r1 => ?_⟩
  split at p1
  · rename_i a
    split at p1
    · rename_i ds hA
      cases r1
      obtain ⟨vs, hH, rv⟩ := (g1.rs.mem a _ hA).2
      have g2 := g1.rs.goFz hA hH
      exact k _ _ _ _ _ p1 (g1.trans g2) (.lst upd_same (rv.mono g2.ext))
    · exact p1.elim
  · exact p1.elim⟩
end
end Qd


set_option Elab.async false
set_option linter.all false
set_option maxRecDepth 100000
set_option maxHeartbeats 4000000
/-! Second layer, part S: statements, targets, loops, comprehensions. -/
namespace Qd
open PySem L2

structure EndsQ where
  nx : SQ → MH → Prop
  rt : KQ
  bk : SQ → MH → Prop := fun _ _ => False
  ct : SQ → MH → Prop := fun _ _ => False
abbrev TSQ := EndsQ → SQ → MH → Prop

section
variable (K : PySem.W.Frag) (T : Tz)
structure EndsRel (F : Hp) (A : MH) (H : Hp) (D2 : EndsQ) (E : Ends) : Prop where
  nx : ∀ s' A' σ' H' F', D2.nx s' A' → Go K T F A H F' A' H' → Rs K F' s' σ' → E.nx σ' H'
  rt : ∀ d A' v H' F', D2.rt d A' → Go K T F A H F' A' H' → Rep K F' v d → E.rt v H'
  bk : ∀ s' A' σ' H' F', D2.bk s' A' → Go K T F A H F' A' H' → Rs K F' s' σ' → E.bk σ' H'
  ct : ∀ s' A' σ' H' F', D2.ct s' A' → Go K T F A H F' A' H' → Rs K F' s' σ' → E.ct σ' H'
def liftS (t : TSQ) : TS := fun D σ H => ∃ F A s, Rs K F s σ ∧ RS K T F A H ∧ ∃ D2 : EndsQ, t D2 s A ∧ EndsRel K T F A H D2 D
end
theorem EndsRel.mono {K : PySem.W.Frag} {T : Tz} {F F1 : Hp} {A A1 : MH} {H H1 : Hp} {D2 : EndsQ} {E : Ends} (r : EndsRel K T F A H D2 E) (g : Go K T F A H F1 A1 H1) : EndsRel K T F1 A1 H1 D2 E :=
  ⟨fun s' A' σ' H' F2 p g2 => r.nx s' A' σ' H' F2 p (g.trans g2), fun d A' v H' F2 p g2 => r.rt d A' v H' F2 p (g.trans g2), fun s' A' σ' H' F2 p g2 => r.bk s' A' σ' H' F2 p (g.trans g2), fun s' A' σ' H' F2 p g2 => r.ct s' A' σ' H' F2 p (g.trans g2)⟩

structure PSQ (X : Cx) (T : Tz) (st : Stmt) (t : TSQ) : Prop where
  ps : PS X st (liftS X.K T t)
structure PSsQ (X : Cx) (T : Tz) (st : List Stmt) (t : TSQ) : Prop where
  ps : PSs X st (liftS X.K T t)

section
variable {X : Cx} {T : Tz} {st : Stmt} {rest : List Stmt} {t u : TSQ} {e : Expr} {te : TQ} {pos : Pos}
def qNext : TSQ := fun D s A => D.nx s A
def qSeq (t u : TSQ) : TSQ := fun D s A => t { D with nx := u D } s A
theorem lift_next {K : PySem.W.Frag} {D : Ends} {σ : St} {H : Hp} (h : liftS K T qNext D σ H) : tNext D σ H := by
  obtain ⟨F, A, s, hs, hR, D2, ht, k⟩ := h
  exact k.nx _ _ _ _ _ ht hR.go hs
theorem psq_nil : PSsQ X T [] qNext := ⟨pss_nil.wk fun _ _ _ h => lift_next h⟩
theorem psq_cons (h1 : PSQ X T st t) (h2 : PSsQ X T rest u) : PSsQ X T (st :: rest) (qSeq t u) := ⟨(pss_cons h1.ps h2.ps).wk fun D σ H h => by
  obtain ⟨F, A, s, hs, hR, D2, ht, k⟩ := h
  refine ⟨F, A, s, hs, hR, _, ht, ⟨fun s' A' σ' H' F' p g hs' => ?_, k.rt, k.bk, k.ct⟩⟩
  exact ⟨F', A', s', hs', g.rs, D2, p, k.mono g⟩⟩
theorem psq_one (h1 : PSQ X T st t) : PSsQ X T [st] t := ⟨pss_one h1.ps⟩
/-- a word between a statement and the rest -/
def qCut (t u : TSQ) : TSQ := fun D s A => ∃ Mid : SQ → MH → Prop, t { D with nx := Mid } s A ∧ ∀ s' A', Mid s' A' → u D s' A'
theorem psq_cut (h1 : PSQ X T st t) (h2 : PSsQ X T rest u) : PSsQ X T (st :: rest) (qCut t u) := ⟨(pss_cons h1.ps h2.ps).wk fun D σ H h => by
  obtain ⟨F, A, s, hs, hR, D2, ⟨Mid, ht, hm⟩, k⟩ := h
  refine ⟨F, A, s, hs, hR, _, ht, ⟨fun s' A' σ' H' F' p g hs' => ?_, k.rt, k.bk, k.ct⟩⟩
  exact ⟨F', A', s', hs', g.rs, D2, hm _ _ p, k.mono g⟩⟩
theorem psq_pass : PSQ X T (.Pass pos) qNext := ⟨ps_pass.wk fun _ _ _ h => lift_next h⟩
def qBreak : TSQ := fun D s A => D.bk s A
def qCont : TSQ := fun D s A => D.ct s A
theorem psq_break : PSQ X T (.Break pos) qBreak := ⟨ps_break.wk fun _ _ _ h => by
  obtain ⟨F, A, s, hs, hR, D2, ht, k⟩ := h
  exact k.bk _ _ _ _ _ ht hR.go hs⟩
theorem psq_cont : PSQ X T (.Continue pos) qCont := ⟨ps_continue.wk fun _ _ _ h => by
  obtain ⟨F, A, s, hs, hR, D2, ht, k⟩ := h
  exact k.ct _ _ _ _ _ ht hR.go hs⟩
theorem psq_doc {x j pos'} : PSQ X T (.Expr (.Constant (.str x) j pos) pos') qNext := ⟨ps_doc.wk fun _ _ _ h => lift_next h⟩
def qDrop (te : TQ) : TSQ := fun D s A => te s A fun _ A1 => D.nx s A1
theorem psq_expr (he : PQ X T e te) (hs : swapsWith e none pos.line X.env = pure false := by rfl) : PSQ X T (.Expr e pos) (qDrop te) := ⟨(ps_expr he.pe hs).wk fun D σ H h => by
  obtain ⟨F, A, s, hs, hR, D2, ht, k⟩ := h
  exact ⟨F, A, s, hs, hR, _, ht, fun d A' v H' F' p g r => k.nx _ _ _ _ _ p g (hs.mono g.ext)⟩⟩
def qRet (te : TQ) : TSQ := fun D s A => te s A D.rt
theorem psq_ret (he : PQ X T e te) : PSQ X T (.Return (some e) pos) (qRet te) := ⟨(ps_ret he.pe).wk fun D σ H h => by
  obtain ⟨F, A, s, hs, hR, D2, ht, k⟩ := h
  exact ⟨F, A, s, hs, hR, _, ht, fun d A' v H' F' p g r => k.rt _ _ _ _ _ p g r⟩⟩
def qRetN : TSQ := fun D _ A => D.rt .non A
theorem psq_retN : PSQ X T (.Return none pos) qRetN := ⟨ps_retN.wk fun D σ H h => by
  obtain ⟨F, A, s, hs, hR, D2, ht, k⟩ := h
  exact k.rt _ _ _ _ _ ht hR.go .non⟩
def qIfS (c : TTQ) (t u : TSQ) : TSQ := fun D s A => c s A fun b A1 => if b = true then t D s A1 else u D s A1
theorem psq_if {c : Expr} {a b : List Stmt} {tc : TTQ} (hc : PTQ X T c tc) (ha : PSsQ X T a t) (hb : PSsQ X T b u) : PSQ X T (.If c a b pos) (qIfS tc t u) := ⟨(ps_if hc.pt ha.ps hb.ps).wk fun D σ H h => by
  obtain ⟨F, A, s, hs, hR, D2, ht, k⟩ := h
  refine ⟨F, A, s, hs, hR, _, ht, fun c A' H' F' p g => ?_⟩
  cases c with
  | true => exact ⟨F', A', s, hs.mono g.ext, g.rs, D2, p, k.mono g⟩
  | false => exact ⟨F', A', s, hs.mono g.ext, g.rs, D2, p, k.mono g⟩⟩
def qNever : TSQ := fun _ _ _ => False
theorem psq_never : PSQ X T st qNever := ⟨ps_never.wk fun D σ H h => by
  obtain ⟨F, A, s, hs, hR, D2, ht, k⟩ := h
  exact ht⟩

/-! ### targets: names, tuples of targets -/
inductive Tgt where
  | nm (i : Nat) | tp (ts : List Tgt)
mutual
def tgG (K : PySem.W.Frag) : Tgt → TG
  | .nm i => gName i
  | .tp ts => gTup K ts.length (tgGs K ts)
def tgGs (K : PySem.W.Frag) : List Tgt → TGs
  | [] => gNil
  | t :: ts => gCons (tgG K t) (tgGs K ts)
end
mutual
def tset : Tgt → D → SQ → Option SQ
  | .nm i, d, s => some (s.set i (some d))
  | .tp ts, .tup ds, s => tsets ts ds s
  | .tp _, _, _ => none
def tsets : List Tgt → List D → SQ → Option SQ
  | [], [], s => some s
  | t :: ts, d :: ds, s => match tset t d s with
    | some s' => tsets ts ds s'
    | none => none
  | _, _, _ => none
end
mutual
def tix : Tgt → List Nat
  | .nm i => [i]
  | .tp ts => tixs ts
def tixs : List Tgt → List Nat
  | [] => []
  | t :: ts => tix t ++ tixs ts
end
/-- but for the places ix all is as it was -/
def SetAt (ix : List Nat) (σ σ' : St) : Prop := σ'.length = σ.length ∧ ∀ j, j ∉ ix → σ'[j]? = σ[j]?
theorem SetAt.refl (ix : List Nat) (σ : St) : SetAt ix σ σ := ⟨rfl, fun _ _ => rfl⟩
theorem SetAt.trans {ix iy : List Nat} {σ σ1 σ2 : St} (a : SetAt ix σ σ1) (b : SetAt iy σ1 σ2) : SetAt (ix ++ iy) σ σ2 :=
  ⟨b.1.trans a.1, fun j hj => (b.2 j fun z => hj (List.mem_append_right _ z)).trans (a.2 j fun z => hj (List.mem_append_left _ z))⟩
theorem wipe_get (σ : St) : ∀ (vs : List Nat) (j : Nat), (wipe σ vs)[j]? = if j ∈ vs ∧ j < σ.length then some none else σ[j]?
  | [], j => by simp [wipe]
  | v :: vs, j => by
    unfold wipe
    rw [List.getElem?_set, wipe_length, wipe_get σ vs j]
    by_cases h : v = j
    · subst h
      by_cases h2 : v < σ.length
      · simp [h2]
      · have h3 : σ.length ≤ v := Nat.le_of_not_lt h2
        simp [h2, List.getElem?_eq_none_iff.mpr h3]
    · have h' : j ≠ v := fun z => h z.symm
      simp [h, h']
theorem SetAt.wipe {ix vs : List Nat} {σ σ' : St} (a : SetAt ix σ σ') (h : ∀ j ∈ ix, j ∈ vs) : wipe σ' vs = wipe σ vs := by
  apply List.ext_getElem?
  intro j
  rw [wipe_get, wipe_get, a.1]
  by_cases hj : j ∈ vs ∧ j < σ.length
  · rw [if_pos hj, if_pos hj]
  · rw [if_neg hj, if_neg hj]
    by_cases hv : j ∈ vs
    · have h3 : σ.length ≤ j := Nat.le_of_not_lt fun z => hj ⟨hv, z⟩
      rw [List.getElem?_eq_none_iff.mpr h3, List.getElem?_eq_none_iff.mpr (by rw [a.1]; exact h3)]
    · exact a.2 j fun z => hv (h j z)
theorem wipe_wipe (σ : St) (vs : List Nat) : wipe (wipe σ vs) vs = wipe σ vs := by
  apply List.ext_getElem?
  intro j
  rw [wipe_get, wipe_get, wipe_length]
  by_cases hj : j ∈ vs ∧ j < σ.length
  · rw [if_pos hj, if_pos hj]
  · rw [if_neg hj, if_neg hj]
section
variable {K : PySem.W.Frag} {F H : Hp} {A : MH}
mutual
theorem tg_ok (R : RS K T F A H) : ∀ (t : Tgt) {v : V} {d : D} {σ : St} {s s' : SQ} {Q : St → Hp → Prop}, Rs K F s σ → Rep K F v d → tset t d s = some s' → (∀ σ', Rs K F s' σ' → SetAt (tix t) σ σ' → Q σ' H) → tgG K t v σ H Q
  | .nm i, v, d, σ, s, s', Q, hs, r, e, k => by
    have e' : s.set i (some d) = s' := by simpa [tset] using e
    subst e'
    refine k _ (hs.set r i) ⟨List.length_set, fun j hj => ?_⟩
    rw [List.getElem?_set_ne]
    intro z
    exact hj (by simp [tix, z])
  | .tp ts, v, d, σ, s, s', Q, hs, r, e, k => by
    cases d with
    | tup ds =>
      cases r with
      | @tup a vs _ hq rr =>
        have e' : tsets ts ds s = some s' := by simpa [tset] using e
        refine ⟨a, vs, rfl, sqT_mono R.sub hq, ?_, ?_⟩
        · rw [rr.length]; exact tsets_len ts ds e'
        · exact tgs_ok R ts hs rr e' fun σ' h1 h2 => k σ' h1 (by simpa [tix] using h2)
    | _ => simp [tset] at e
theorem tgs_ok (R : RS K T F A H) : ∀ (ts : List Tgt) {vs : List V} {ds : List D} {σ : St} {s s' : SQ} {Q : St → Hp → Prop}, Rs K F s σ → Reps K F vs ds → tsets ts ds s = some s' → (∀ σ', Rs K F s' σ' → SetAt (tixs ts) σ σ' → Q σ' H) → tgGs K ts vs σ H Q
  | [], vs, ds, σ, s, s', Q, hs, r, e, k => by
    cases r with
    | nil =>
      have e' : s = s' := by simpa [tsets] using e
      subst e'
      exact ⟨rfl, k _ hs (SetAt.refl _ _)⟩
    | cons _ _ => simp [tsets] at e
  | t :: ts, vs, ds, σ, s, s', Q, hs, r, e, k => by
    cases r with
    | nil => simp [tsets] at e
    | @cons v d vs' ds' r1 rr =>
      have e' : (match tset t d s with | some s1 => tsets ts ds' s1 | none => none) = some s' := by simpa [tsets] using e
      cases h1 : tset t d s with
      | none => rw [h1] at e'; cases e'
      | some s1 =>
        rw [h1] at e'
        refine ⟨v, vs', rfl, tg_ok R t hs r1 h1 fun σ1 q1 q2 => ?_⟩
        exact tgs_ok R ts q1 rr e' fun σ2 q3 q4 => k σ2 q3 (by simpa [tixs] using q2.trans q4)
theorem tsets_len : ∀ (ts : List Tgt) (ds : List D) {s s' : SQ}, tsets ts ds s = some s' → ds.length = ts.length
  | [], [], _, _, _ => rfl
  | [], _ :: _, _, _, e => by simp [tsets] at e
  | _ :: _, [], _, _, e => by simp [tsets] at e
  | t :: ts, d :: ds, s, s', e => by
    have e' : (match tset t d s with | some s1 => tsets ts ds s1 | none => none) = some s' := by simpa [tsets] using e
    cases h1 : tset t d s with
    | none => rw [h1] at e'; cases e'
    | some s1 =>
      rw [h1] at e'
      rw [List.length_cons, List.length_cons, tsets_len ts ds e']
end
end
/-- a target in the text is this one -/
structure PGQ (X : Cx) (tg : Expr) (t : Tgt) : Prop where
  pg : PG X tg (tgG X.K t)
structure PGsQ (X : Cx) (tg : List Expr) (ts : List Tgt) : Prop where
  pg : PGs X tg (tgGs X.K ts)
theorem gq_nm (i : Nat) {x : Str} (hN : X.N.Nodup) (hi : X.N[i]? = some x := by rfl) (hx : Loc X.env.scope x := by first | exact Or.inl rfl | exact Or.inr rfl) (hf : X.fn x = true ∨ X.env.scope.names.lookup x = some .local := by first | exact .inl rfl | exact .inr rfl | assumption) : PGQ X (.Name x pos) (.nm i) :=
  ⟨by
    have h := pg_name (pos := pos) hN hi hx hf
    have e : tgG X.K (.nm i) = gName i := by simp [tgG]
    rw [e]; exact h⟩
theorem gqs_nil : PGsQ X [] [] := ⟨by
    have e : tgGs X.K [] = gNil := by simp [tgGs]
    rw [e]; exact pgs_nil⟩
theorem gqs_cons {tg : Expr} {tgs : List Expr} {t : Tgt} {ts : List Tgt} (h : PGQ X tg t) (hs : PGsQ X tgs ts) (ha : (assignEach (tg :: tgs) X.env).map (·.2) = assign tg X.env :: (assignEach tgs X.env).map (·.2) := by rfl) : PGsQ X (tg :: tgs) (t :: ts) := ⟨by
    have e : tgGs X.K (t :: ts) = gCons (tgG X.K t) (tgGs X.K ts) := by simp [tgGs]
    rw [e]; exact pgs_cons h.pg hs.pg ha⟩
theorem gq_tp {tgs : List Expr} {ts : List Tgt} {k : Nat} (hc : X.calm = true) (hs : PGsQ X tgs ts) (hn : (assignEach tgs X.env).length = ts.length := by rfl) (hst : (assignEach tgs X.env).findIdx? (·.1) = none := by rfl) : PGQ X (.Tuple tgs k pos) (.tp ts) := ⟨by
    have e : tgG X.K (.tp ts) = gTup X.K ts.length (tgGs X.K ts) := by simp [tgG]
    rw [e]; exact pg_tup hc hs.pg hn hst⟩

/-- target = e -/
def qAsg (te : TQ) (t : Tgt) : TSQ := fun D s A => te s A fun d A1 => match tset t d s with | some s' => D.nx s' A1 | none => False
theorem lift_asg {K : PySem.W.Frag} {t : Tgt} {D : Ends} {σ : St} {H : Hp} (h : liftS K T (qAsg te t) D σ H) : tAsg (lift K T te) (tgG K t) D σ H := by
  obtain ⟨F, A, s, hs, hR, D2, ht, k⟩ := h
  refine ⟨F, A, s, hs, hR, _, ht, fun d A' v H' F' p g r => ?_⟩
  cases hq : tset t d s with
  | none => rw [hq] at p; exact p.elim
  | some s' =>
    rw [hq] at p
    exact tg_ok g.rs t (hs.mono g.ext) r hq fun σ' h1 _ => k.nx _ _ _ _ _ p g h1
theorem psq_asg {tg : Expr} {t : Tgt} (he : PQ X T e te) (hg : PGQ X tg t) (hs : swapsWithSole [tg] e pos.line X.env = pure false := by rfl) (hw : swappedStores [tg] e X.env = pure none := by rfl)
    (h1 : (assignEach [tg] X.env).map (·.2) = [assign tg X.env] := by rfl) : PSQ X T (.Assign [tg] e pos) (qAsg te t) := ⟨(ps_asg he.pe hg.pg hs hw h1).wk fun _ _ _ h => lift_asg h⟩
theorem psq_set {i : Nat} {x : Str} {pos' : Pos} (hN : X.N.Nodup) (he : PQ X T e te) (hi : X.N[i]? = some x := by rfl) (hx : Loc X.env.scope x := by first | exact Or.inl rfl | exact Or.inr rfl) (hs : swapsWith e (some (.Name x pos')) pos.line X.env = pure false := by rfl) (hf : X.fn x = true ∨ X.env.scope.names.lookup x = some .local := by first | exact .inl rfl | exact .inr rfl | assumption) :
    PSQ X T (.Assign [.Name x pos'] e pos) (qAsg te (.nm i)) := ⟨(ps_set hN hi hx he.pe hs hf).wk fun _ _ _ h => by
  have h' := lift_asg h
  have e : tgG X.K (.nm i) = gName i := by simp [tgG]
  rw [e] at h'; exact h'⟩
/-- a, b = x, y: two local names -/
def qPar (i j : Nat) (ta : TAQ) : TSQ := fun D s A => ta s A fun ds A1 => match ds with | [x, y] => D.nx ((s.set i (some x)).set j (some y)) A1 | _ => False
theorem psq_par {i j : Nat} {x y : Str} {a b : Expr} {ta : TAQ} {px py pt : Pos} {kt k2 pt2} (hc : X.calm = true) (hN : X.N.Nodup) (hij : i ≠ j) (ha : PAQ X T [a, b] ta)
    (hi : X.N[i]? = some x := by rfl) (hj : X.N[j]? = some y := by rfl) (hx : X.env.scope.names.lookup x = some .local := by rfl) (hy : X.env.scope.names.lookup y = some .local := by rfl)
    (hw : swappedStores [.Tuple [.Name x px, .Name y py] kt pt] (.Tuple [a, b] k2 pt2) X.env = pure (some [x, y]) := by rfl)
    (hs : swapsWithSole [.Tuple [.Name x px, .Name y py] kt pt] (.Tuple [a, b] k2 pt2) pos.line X.env = pure false := by rfl) :
    PSQ X T (.Assign [.Tuple [.Name x px, .Name y py] kt pt] (.Tuple [a, b] k2 pt2) pos) (qPar i j ta) := ⟨(ps_par hc hN hi hj hij hx hy ha.pa hw hs).wk fun D σ H h => by
  obtain ⟨F, A, s, hs, hR, D2, ht, k⟩ := h
  refine ⟨F, A, s, hs, hR, _, ht, fun ds A' vs H' F' p g r => ?_⟩
  cases r with
  | nil => exact p.elim
  | cons r1 rr =>
    cases rr with
    | nil => exact p.elim
    | cons r2 rr =>
      cases rr with
      | nil => exact ⟨_, _, rfl, k.nx _ _ _ _ _ p g (((hs.mono g.ext).set r1 i).set r2 j)⟩
      | cons _ _ => exact p.elim⟩

/-! ### what is walked -/
/-- J yields the data ds while F0 stands -/
structure Src (K : PySem.W.Frag) (T : Tz) (J : It) (F0 : Hp) (ds : List D) : Prop where
  go : ∀ i F A H, i < ds.length → RS K T F A H → Same F0 F → J.go i H
  stop : ∀ i F A H, ds.length ≤ i → RS K T F A H → Same F0 F → J.stop i H
  yld : ∀ i F A H x H', i < ds.length → J.yld i H x H' → RS K T F A H → Same F0 F → ∃ d F', ds[i]? = some d ∧ Go K T F A H F' A H' ∧ Rep K F' x d
theorem Src.mono {K : PySem.W.Frag} {J : It} {F0 F1 : Hp} {ds : List D} (S : Src K T J F0 ds) (e : Same F0 F1) : Src K T J F1 ds :=
  ⟨fun i F A H h R e2 => S.go i F A H h R (e.trans e2), fun i F A H h R e2 => S.stop i F A H h R (e.trans e2), fun i F A H x H' hl h R e2 => S.yld i F A H x H' hl h R (e.trans e2)⟩
def liftI (K : PySem.W.Frag) (T : Tz) (wi : TAQ) : TI := fun σ H R => ∃ F A s, Rs K F s σ ∧ RS K T F A H ∧ ∃ P : List D → MH → Prop, wi s A P ∧ ∀ ds A' H' F' J, P ds A' → Go K T F A H F' A' H' → Src K T J F' ds → R J H'
structure PIQ (X : Cx) (T : Tz) (tg iter : Expr) (wi : TAQ) : Prop where
  pi : PI X tg iter (liftI X.K T wi)

/-! ### for -/
def runL (t : Tgt) (tb : TSQ) (E : EndsQ) : List D → SQ → MH → Prop
  | [], s, A => E.nx s A
  | x :: xs, s, A => match tset t x s with
    | some s' => tb { E with nx := runL t tb E xs, ct := runL t tb E xs, bk := E.nx } s' A
    | none => False
def qFor (wi : TAQ) (t : Tgt) (tb : TSQ) : TSQ := fun E s A => wi s A fun ds A1 => runL t tb E ds s A1
theorem psq_for {tg iter : Expr} {body : List Stmt} {wi : TAQ} {t : Tgt} {tb : TSQ} (hp : PassesOwn (model X.prog X.w) X.A X.env X.xe) (hc : X.calm = true) (hi : PIQ X T tg iter wi) (hg : PGQ X tg t) (hb : PSsQ X T body tb)
    (hs : ∀ x, foldedSetIterable iter X.env x = pure x := by intro _; rfl) : PSQ X T (.For tg iter body [] pos) (qFor wi t tb) := ⟨(ps_for hp hc hi.pi hg.pg hb.ps hs).wk fun E σ H h => by
  obtain ⟨F, A, s, hs, hR, D2, ht, k⟩ := h
  refine ⟨F, A, s, hs, hR, _, ht, fun ds A1 H1 F1 J p g1 S => ?_⟩
  refine ⟨fun i m σ H' => ∃ F' A s, Go X.K T F1 A1 H1 F' A H' ∧ Rs X.K F' s σ ∧ m = ds.length - i ∧ i ≤ ds.length ∧ runL t tb D2 (ds.drop i) s A, ⟨_, F1, A1, s, g1.rs.go, hs.mono g1.ext, rfl, Nat.zero_le _, p⟩, ?_⟩
  rintro i m σ H ⟨F, A, s, g2, hs2, rfl, hi, q⟩
  by_cases hl : i < ds.length
  · refine .inr ⟨S.go i F A H hl g2.rs g2.ext, fun σ H' => ∃ F' A s, Go X.K T F1 A1 H1 F' A H' ∧ Rs X.K F' s σ ∧ runL t tb D2 (ds.drop (i + 1)) s A, fun σ' H' ⟨F', A', s', h1, h2, h4⟩ => ⟨ds.length - (i + 1), by omega, F', A', s', h1, h2, rfl, hl, h4⟩, fun x H' hy => ?_⟩
    obtain ⟨d, F3, hd, g3, r3⟩ := S.yld i F A H x H' hl hy g2.rs g2.ext
    have hd' : ds[i] = d := by rw [List.getElem?_eq_getElem hl] at hd; exact Option.some.inj hd
    rw [List.drop_eq_getElem_cons hl, hd'] at q
    have q' : (match tset t d s with | some s' => tb { D2 with nx := runL t tb D2 (ds.drop (i + 1)), ct := runL t tb D2 (ds.drop (i + 1)), bk := D2.nx } s' A | none => False) := q
    cases hq : tset t d s with
    | none => rw [hq] at q'; exact q'.elim
    | some s' =>
      rw [hq] at q'
      have g4 := g2.trans g3
      refine tg_ok g3.rs t (hs2.mono g3.ext) r3 hq fun σ' h1 _ => ⟨F3, A, s', h1, g3.rs, _, q', ?_⟩
      have fn : ∀ s' A' σ' H' F', runL t tb D2 (ds.drop (i + 1)) s' A' → Go X.K T F3 A _ F' A' H' → Rs X.K F' s' σ' → ∃ F' A s, Go X.K T F1 A1 H1 F' A H' ∧ Rs X.K F' s σ' ∧ runL t tb D2 (ds.drop (i + 1)) s A := fun s' A' σ' H' F' p g hs' => ⟨F', A', s', g4.trans g, hs', p⟩
      exact ⟨fn, fun d A' v H' F' p g r => k.rt _ _ _ _ _ p ((g1.trans g4).trans g) r, fun s' A' σ' H' F' p g hs' => k.nx _ _ _ _ _ p ((g1.trans g4).trans g) hs', fn⟩
  · have e : i = ds.length := by omega
    refine .inl ⟨S.stop i F A H (by omega) g2.rs g2.ext, ?_⟩
    rw [List.drop_eq_nil_of_le (by omega)] at q
    exact k.nx _ _ _ _ _ (show D2.nx s A from q) (g1.trans g2) hs2⟩

/-! ### while -/
def qWhile (c : TTQ) (tb : TSQ) : TSQ := fun E s A => ∃ W : Nat → SQ → MH → Prop, (∃ m, W m s A) ∧ ∀ m s A, W m s A →
  c s A fun b A1 => if b = true then tb { E with nx := fun s' A' => ∃ m', m' < m ∧ W m' s' A', ct := fun s' A' => ∃ m', m' < m ∧ W m' s' A', bk := E.nx } s A1 else E.nx s A1
theorem psq_while {c : Expr} {body : List Stmt} {tc : TTQ} {tb : TSQ} (hp : PassesOwn (model X.prog X.w) X.A X.env X.xe) (hc : PTQ X T c tc) (hb : PSsQ X T body tb) : PSQ X T (.While c body [] pos) (qWhile tc tb) := ⟨(ps_while hp hc.pt hb.ps).wk fun E σ H h => by
  obtain ⟨F, A, s, hs, hR, D2, ⟨W, ⟨m0, w0⟩, turn⟩, k⟩ := h
  refine ⟨fun m σ H' => ∃ F' A' s, Go X.K T F A H F' A' H' ∧ Rs X.K F' s σ ∧ W m s A', ⟨m0, F, A, s, hR.go, hs, w0⟩, ?_⟩
  rintro m σ H1 ⟨F1, A1, s1, g1, hs1, w1⟩
  refine ⟨F1, A1, s1, hs1, g1.rs, _, turn m s1 A1 w1, fun b A2 H2 F2 p g2 => ?_⟩
  cases b with
  | true =>
    rw [if_pos rfl]
    rw [if_pos rfl] at p
    refine ⟨fun σ H' => ∃ m', m' < m ∧ ∃ F' A' s, Go X.K T F A H F' A' H' ∧ Rs X.K F' s σ ∧ W m' s A', fun σ' H' ⟨m', hm, z⟩ => ⟨m', hm, z⟩, F2, A2, s1, hs1.mono g2.ext, g2.rs, _, p, ?_⟩
    have fn : ∀ s' A' σ' H' F', (∃ m', m' < m ∧ W m' s' A') → Go X.K T F2 A2 H2 F' A' H' → Rs X.K F' s' σ' → ∃ m', m' < m ∧ ∃ F' A' s, Go X.K T F A H F' A' H' ∧ Rs X.K F' s σ' ∧ W m' s A' := fun s' A' σ' H' F' ⟨m', hm, w'⟩ g hs' => ⟨m', hm, F', A', s', (g1.trans g2).trans g, hs', w'⟩
    exact ⟨fn, fun d A' v H' F' p g r => k.rt _ _ _ _ _ p ((g1.trans g2).trans g) r, fun s' A' σ' H' F' p g hs' => k.nx _ _ _ _ _ p ((g1.trans g2).trans g) hs', fn⟩
  | false =>
    rw [if_neg Bool.false_ne_true]
    rw [if_neg Bool.false_ne_true] at p
    exact k.nx _ _ _ _ _ p (g1.trans g2) (hs1.mono g2.ext)⟩

/-! ### list comprehensions -/
def wipeQ (s : SQ) : List Nat → SQ
  | [] => s
  | v :: vs => (wipeQ s vs).set v none
theorem Rs.wipe {K : PySem.W.Frag} {F : Hp} {s : SQ} {σ : St} (h : Rs K F s σ) : ∀ vs : List Nat, Rs K F (wipeQ s vs) (L2.wipe σ vs)
  | [] => h
  | v :: vs => (Rs.wipe h vs).forget v none
structure PTsQ (X : Cx) (T : Tz) (ifs : List Expr) (t : TTQ) : Prop where
  pt : PTs X ifs (liftT X.K T t)
def qYes : TTQ := fun _ A P => P true A
theorem qts_nil : PTsQ X T [] qYes := ⟨⟨fun pins s σ H Q I h => pts_nil.run pins s σ H Q I (by
  obtain ⟨F, A, s, hs, hR, P, ht, k⟩ := h
  exact k _ _ _ _ ht hR.go)⟩⟩
theorem qts_one {c : Expr} {t : TTQ} (h : PTQ X T c t) : PTsQ X T [c] t := ⟨pts_one h.pt⟩
/-- the block's turns: acc is made so far -/
def compL (t : Tgt) (tt : TTQ) (te : TQ) (s : SQ) : List D → List D → MH → (List D → MH → Prop) → Prop
  | [], acc, A, P => P acc A
  | x :: xs, acc, A, P => match tset t x s with
    | some s' => tt s' A fun b A1 => if b = true then te s' A1 fun y A2 => acc.length < 100000 ∧ compL t tt te s xs (acc ++ [y]) A2 P else compL t tt te s xs acc A1 P
    | none => False
def qLc (m : Bool) (wi : TAQ) (t : Tgt) (tt : TTQ) (te : TQ) (vs : List Nat) : TQ := fun s A P => wi s A fun ds A1 => compL t tt te (wipeQ s vs) ds [] A1 fun out A2 => newL m out A2 P
theorem newL_at {K : PySem.W.Frag} {m : Bool} {ds : List D} {P : KQ} {F F1 H H1 : Hp} {A A1 : MH} {vs : List V} {p : Addr} {Q : VK} (G : Go K T F A H F1 A1 H1) (h : newL m ds A1 P) (r : Reps K F1 vs ds) (hn : H p = none) (hF : F1 p = none) (hA : A1 p = none) (hp : H1 p = some (.lst vs))
    (k : ∀ d A' v H' F', P d A' → Go K T F A H F' A' H' → Rep K F' v d → Q v H') : Q (.ref p) H1 := by
  unfold newL at h
  cases m with
  | true =>
    rw [if_pos rfl] at h
    exact k _ _ _ _ _ (h p hA) (G.own hn hF ⟨vs, hp, r⟩) (.mut p)
  | false =>
    rw [if_neg Bool.false_ne_true] at h
    obtain ⟨g, e⟩ := G.froze hn hF hA hp trivial
    exact k _ _ _ _ _ h g (.lst upd_same (r.mono e))
/-- the reading of a list comprehension in the layer below, from that over data -/
theorem lift_lc {K : PySem.W.Frag} {m : Bool} {wi : TAQ} {t : Tgt} {tt : TTQ} {te : TQ} {vs : List Nat} (hv : ∀ j ∈ tix t, j ∈ vs) {σ : St} {H : Hp} {Q : VK} (h : lift K T (qLc m wi t tt te vs) σ H Q) : tLc (liftI K T wi) (tgG K t) (liftT K T tt) (lift K T te) vs σ H Q := by
  obtain ⟨F, A, s, hs, hR, P, ht, k⟩ := h
  refine ⟨F, A, s, hs, hR, _, ht, fun ds A1 H1 F1 J p g1 S => fun D hD => ?_⟩
  have nF1 : F1 D = none := (g1.rs.free hD).1
  have nA1 : A1 D = none := (g1.rs.free hD).2
  refine ⟨fun i m0 H' => ∃ F' A' acc vs0, Go K T F1 A1 H1 F' A' H' ∧ F' D = none ∧ A' D = none ∧ H' D = some (.lst vs0) ∧ Reps K F' vs0 acc ∧ m0 = ds.length - i ∧ i ≤ ds.length ∧ compL t tt te (wipeQ s vs) (ds.drop i) acc A' fun out A2 => newL m out A2 P,
    ⟨_, F1, A1, [], [], g1.rs.go.beside hD, nF1, nA1, upd_same, .nil, rfl, Nat.zero_le _, p⟩, ?_⟩
  rintro i m0 H2 ⟨F2, A2, acc, vs0, g2, n1, n2, hD2, rr, rfl, hi, q⟩
  by_cases hl : i < ds.length
  · refine .inr ⟨S.go i F2 A2 H2 hl g2.rs g2.ext, fun H' => ∃ F' A' acc vs0, Go K T F1 A1 H1 F' A' H' ∧ F' D = none ∧ A' D = none ∧ H' D = some (.lst vs0) ∧ Reps K F' vs0 acc ∧ compL t tt te (wipeQ s vs) (ds.drop (i + 1)) acc A' fun out A2 => newL m out A2 P,
      fun H' ⟨F', A', acc, vs0, h1, h2, h3, h4, h5, h6⟩ => ⟨ds.length - (i + 1), by omega, F', A', acc, vs0, h1, h2, h3, h4, h5, rfl, hl, h6⟩, fun x H3 hy => ?_⟩
    obtain ⟨d, F3, hd, g3, r3⟩ := S.yld i F2 A2 H2 x H3 hl hy g2.rs g2.ext
    obtain ⟨a1, a2, a3⟩ := g3.kp D _ hD2 n2 trivial
    have hd' : ds[i] = d := by rw [List.getElem?_eq_getElem hl] at hd; exact Option.some.inj hd
    rw [List.drop_eq_getElem_cons hl, hd'] at q
    have hsw : Rs K F3 (wipeQ s vs) (L2.wipe σ vs) := ((hs.mono g1.ext).mono (g2.trans g3).ext).wipe vs
    cases hq : tset t d (wipeQ s vs) with
    | none =>
      have q' : (match tset t d (wipeQ s vs) with | some s' => _ | none => False) := q
      rw [hq] at q'; exact q'.elim
    | some s' =>
      have q' : (match tset t d (wipeQ s vs) with | some s' => tt s' A2 fun b A1 => if b = true then te s' A1 fun y A2 => acc.length < 100000 ∧ compL t tt te (wipeQ s vs) (ds.drop (i + 1)) (acc ++ [y]) A2 (fun out A2 => newL m out A2 P) else compL t tt te (wipeQ s vs) (ds.drop (i + 1)) acc A1 (fun out A2 => newL m out A2 P) | none => False) := q
      rw [hq] at q'
      refine tg_ok g3.rs t hsw r3 hq fun σ' h1 h2 => ⟨?_, ?_⟩
      · rw [h2.wipe hv, wipe_wipe]
      · refine ⟨F3, A2, s', h1, g3.rs, _, q', fun b A4 H4 F4 p4 g4 => ?_⟩
        obtain ⟨b1, b2, b3⟩ := g4.kp D _ a1 a2 trivial
        cases b with
        | true =>
          rw [if_pos rfl]
          rw [if_pos rfl] at p4
          refine ⟨F4, A4, s', h1.mono g4.ext, g4.rs, _, p4, fun y A5 v H5 F5 p5 g5 r5 => ?_⟩
          obtain ⟨c1, c2, c3⟩ := g5.kp D _ b1 b2 trivial
          have g6 := ((g2.trans g3).trans g4).trans g5
          have e6 := ((g3.trans g4).trans g5).ext
          refine ⟨vs0, c1, ?_, F5, A5, acc ++ [y], vs0 ++ [v], g6.aside hD (c3 (b3 (a3 n1))) c2 c1 trivial, c3 (b3 (a3 n1)), c2, upd_same, (rr.mono e6).append (.cons r5 .nil), p5.2⟩
          rw [rr.length]
          exact Evl.sz_lt p5.1
        | false =>
          rw [if_neg Bool.false_ne_true]
          rw [if_neg Bool.false_ne_true] at p4
          exact ⟨F4, A4, acc, vs0, (g2.trans g3).trans g4, b3 (a3 n1), b2, b1, rr.mono (g3.trans g4).ext, p4⟩
  · refine .inl ⟨S.stop i F2 A2 H2 (by omega) g2.rs g2.ext, ?_⟩
    rw [List.drop_eq_nil_of_le (by omega)] at q
    exact newL_at g2 q rr hD n1 n2 hD2 fun d A' v H' F' p g r => k _ _ _ _ _ p (g1.trans g) r
theorem pq_lc (m : Bool) {elt tg iter : Expr} {ifs : List Expr} {scope : Scope} {own : List (Str × Nat)} {wi : TAQ} {t : Tgt} {tt : TTQ} {te : TQ} (hc : X.calm = true) (hN : X.N.Nodup) (hi : PIQ X T tg iter wi) (ok : BlkOk X.N X.env.scope scope own)
    (hg : ∀ (s : Shared) (H : Hp) (C : Addr) (cl : List (Str × Addr)) (fp : List Addr), PGQ (X.blk s H scope (compEnvC scope cl C X.env) fp) tg t) (ht : ∀ (s : Shared) (H : Hp) (C : Addr) (cl : List (Str × Addr)) (fp : List Addr), PTsQ (X.blk s H scope (compEnvC scope cl C X.env) fp) T ifs tt)
    (he : ∀ (s : Shared) (H : Hp) (C : Addr) (cl : List (Str × Addr)) (fp : List Addr), PQ (X.blk s H scope (compEnvC scope cl C X.env) fp) T elt te) (hv : ∀ j ∈ tix t, j ∈ own.map (·.2) := by decide) (hs : ∀ x, foldedSetIterable iter X.env x = pure x := by intro _; rfl) :
    PQ X T (.ListComp elt [⟨tg, iter, ifs, 0⟩] scope pos) (qLc m wi t tt te (own.map (·.2))) :=
  ⟨(pe_lc hc hN hi.pi ok (fun s H C cl fp => (hg s H C cl fp).pg) (fun s H C cl fp => (ht s H C cl fp).pt) (fun s H C cl fp => (he s H C cl fp).pe) hs).wk fun _ _ _ h => lift_lc hv h⟩
theorem psq_setLc (m : Bool) {i : Nat} {y : Str} {py spos : Pos} {elt tg iter : Expr} {ifs : List Expr} {scope : Scope} {own : List (Str × Nat)} {wi : TAQ} {t : Tgt} {tt : TTQ} {te : TQ} (hc : X.calm = true) (hN : X.N.Nodup) (hi : PIQ X T tg iter wi) (ok : BlkOk X.N X.env.scope scope own)
    (hg : ∀ (s : Shared) (H : Hp) (C : Addr) (cl : List (Str × Addr)) (fp : List Addr), PGQ (X.blk s H scope (compEnvC scope cl C X.env) fp) tg t) (ht : ∀ (s : Shared) (H : Hp) (C : Addr) (cl : List (Str × Addr)) (fp : List Addr), PTsQ (X.blk s H scope (compEnvC scope cl C X.env) fp) T ifs tt)
    (he : ∀ (s : Shared) (H : Hp) (C : Addr) (cl : List (Str × Addr)) (fp : List Addr), PQ (X.blk s H scope (compEnvC scope cl C X.env) fp) T elt te)
    (hsw : swapsWith (.ListComp elt [⟨tg, iter, ifs, 0⟩] scope pos) (some (.Name y py)) spos.line X.env = pure true) (hy : X.N[i]? = some y := by rfl) (hyl : X.env.scope.names.lookup y = some .local := by rfl)
    (hv : ∀ j ∈ tix t, j ∈ own.map (·.2) := by decide) (hs : ∀ x, foldedSetIterable iter X.env x = pure x := by intro _; rfl) :
    PSQ X T (.Assign [.Name y py] (.ListComp elt [⟨tg, iter, ifs, 0⟩] scope pos) spos) (qAsg (qLc m wi t tt te (own.map (·.2))) (.nm i)) :=
  ⟨(ps_setLc hc hN hy hyl hsw hi.pi ok (fun s H C cl fp => (hg s H C cl fp).pg) (fun s H C cl fp => (ht s H C cl fp).pt) (fun s H C cl fp => (he s H C cl fp).pe) hs).wk fun E σ H h => by
  have h' := lift_asg h
  have e : tgG X.K (.nm i) = gName i := by simp [tgG]
  rw [e] at h'
  exact lift_lc hv (Q := fun v H1 => gName i v σ H1 E.nx) h'⟩
end
end Qd


set_option Elab.async false
set_option linter.all false
set_option maxRecDepth 100000
set_option maxHeartbeats 4000000
/-! Second layer, part C: operators, comparisons, built-ins, subscripts over data. -/
namespace Qd
open PySem L2

def okQ {α : Type} (o : Option α) (P : α → Prop) : Prop := match o with | some z => P z | none => False
theorem okQ_some {α : Type} {z : α} {P : α → Prop} : okQ (some z) P = P z := rfl
theorem okQ_none {α : Type} {P : α → Prop} : okQ (none : Option α) P = False := rfl

section
variable {K : PySem.W.Frag} {T : Tz}
/-! ### inversions -/
theorem Rep.int_inv {F : Hp} {v : V} {i : Int} (h : Rep K F v (.int i)) : v = .int i := by cases h; rfl
theorem Rep.str_inv {F : Hp} {v : V} {i : Str} (h : Rep K F v (.str i)) : v = .str i := by cases h; rfl
theorem Rep.bl_inv {F : Hp} {v : V} {i : Bool} (h : Rep K F v (.bl i)) : v = .bl i := by cases h; rfl
theorem Rep.non_inv {F : Hp} {v : V} (h : Rep K F v .non) : v = .non := by cases h; rfl
theorem Rep.ty_inv {F : Hp} {v : V} {n : String} (h : Rep K F v (.ty n)) : v = .ty n := by cases h; rfl
theorem Rep.mut_inv {F : Hp} {v : V} {a : Addr} (h : Rep K F v (.mut a)) : v = .ref a := by cases h; rfl

/-! ### ints -/
def qI (g : Int → Int → D) : R2Q := fun x y A P => match x, y with | .int i, .int j => P (g i j) A | _, _ => False
def qIC (C : Int → Int → Prop) (g : Int → Int → D) : R2Q := fun x y A P => match x, y with | .int i, .int j => C i j ∧ P (g i j) A | _, _ => False
theorem rel_I {gv : Int → Int → V} {g : Int → Int → D} (hg : ∀ F i j, Rep K F (gv i j) (g i j)) : Rel2 K T (rI0 gv) (qI g) := by
  intro F A H x y xv yv P Q R rx ry h k
  unfold qI at h
  split at h
  · rw [rx.int_inv, ry.int_inv]
    exact ⟨_, _, rfl, rfl, k _ _ _ _ _ h R.go (hg _ _ _)⟩
  · exact h.elim
theorem rel_IC {C : Int → Int → Prop} {gv : Int → Int → V} {g : Int → Int → D} (hg : ∀ F i j, Rep K F (gv i j) (g i j)) : Rel2 K T (rI C gv) (qIC C g) := by
  intro F A H x y xv yv P Q R rx ry h k
  unfold qIC at h
  split at h
  · rw [rx.int_inv, ry.int_inv]
    exact ⟨_, _, rfl, rfl, h.1, k _ _ _ _ _ h.2 R.go (hg _ _ _)⟩
  · exact h.elim
/-- two rules for one operation: the first that fits -/
def qOr2 (r r' : R2Q) : R2Q := fun x y A P => r x y A P ∨ r' x y A P
theorem rel_or {R R' : R2} {r r' : R2Q} (h : Rel2 K T R r) (h' : Rel2 K T R' r') : Rel2 K T (fun x y H Q => R x y H Q ∨ R' x y H Q) (qOr2 r r') := by
  intro F A H x y xv yv P Q RR rx ry hh k
  rcases hh with hh | hh
  · exact .inl (h RR rx ry hh k)
  · exact .inr (h' RR rx ry hh k)
end
section
variable {X : Cx} {T : Tz} {a b c e : Expr} {ta tb tc te : TQ} {pos : Pos}
abbrev qAddI : R2Q := qI fun i j => .int (i + j)
abbrev qSubI : R2Q := qI fun i j => .int (i - j)
abbrev qMulI : R2Q := qIC CMul fun i j => .int (i * j)
/-- any two ints -/
def CModP (_ j : Int) : Prop := 0 < j
abbrev qModI : R2Q := qIC CModP fun i j => .int (i % j)
abbrev qDivI : R2Q := qIC CDiv fun i j => .int (i / j)
def CPowW (i j : Int) : Prop := 0 ≤ j ∧ (Builtin.Int.intBits i : Int) * j ≤ 2 ^ 27
abbrev qPowI : R2Q := qIC CPowW fun i j => .int (i ^ j.toNat)
theorem op_powW : OpR X (binaryOp .Pow) (rI CPowW fun i j => .int (i ^ j.toNat)) := opI fun _ _ _ _ _ _ _ hc q => PyProof.Rows.pow_int hc.1 hc.2 q
theorem pq_addI (ha : PQ X T a ta) (hb : PQ X T b tb) : PQ X T (.BinOp a .Add b pos) (qOp qAddI ta tb) := pq_op (rel_I fun _ _ _ => .int _) op_add ha hb
theorem pq_subI (ha : PQ X T a ta) (hb : PQ X T b tb) : PQ X T (.BinOp a .Sub b pos) (qOp qSubI ta tb) := pq_op (rel_I fun _ _ _ => .int _) op_sub ha hb
theorem pq_mulI (ha : PQ X T a ta) (hb : PQ X T b tb) : PQ X T (.BinOp a .Mult b pos) (qOp qMulI ta tb) := pq_op (rel_IC fun _ _ _ => .int _) op_mul ha hb
theorem pq_modI (ha : PQ X T a ta) (hb : PQ X T b tb) : PQ X T (.BinOp a .Mod b pos) (qOp qModI ta tb) := pq_op (rel_IC fun _ _ _ => .int _) op_mod ha hb
theorem pq_divI (ha : PQ X T a ta) (hb : PQ X T b tb) : PQ X T (.BinOp a .FloorDiv b pos) (qOp qDivI ta tb) := pq_op (rel_IC fun _ _ _ => .int _) op_fdiv ha hb
theorem pq_powI (ha : PQ X T a ta) (hb : PQ X T b tb) : PQ X T (.BinOp a .Pow b pos) (qOp qPowI ta tb) := pq_op (rel_IC fun _ _ _ => .int _) op_powW ha hb
def qNegI : R1Q := fun x A P => match x with | .int i => P (.int (-i)) A | _ => False
theorem pq_neg (ha : PQ X T a ta) : PQ X T (.UnaryOp .USub a pos) (qUn qNegI ta) := pq_un (R := rU fun i => .int (-i)) (by
  intro F A H x xv P Q R rx h k
  unfold qNegI at h
  split at h
  · rw [rx.int_inv]
    exact ⟨_, rfl, k _ _ _ _ _ h R.go (.int _)⟩
  · exact h.elim) un_neg ha

/-! ### + of texts, lists -/
def qAddS : R2Q := fun x y A P => match x, y with | .str i, .str j => i.length + j.length ≤ 100000 ∧ P (.str (i ++ j)) A | _, _ => False
def qAddL (m : Bool) : R2Q := fun x y A P => match x, y with | .lst xs, .lst ys => xs.length + ys.length ≤ 100000 ∧ newL m (xs ++ ys) A P | _, _ => False
theorem pq_addS (ha : PQ X T a ta) (hb : PQ X T b tb) : PQ X T (.BinOp a .Add b pos) (qOp qAddS ta tb) := pq_op (by
  intro F A H x y xv yv P Q R rx ry h k
  unfold qAddS at h
  split at h
  · rw [rx.str_inv, ry.str_inv]
    exact ⟨_, _, rfl, rfl, Evl.sz_of h.1, k _ _ _ _ _ h.2 R.go (.str _)⟩
  · exact h.elim) op_add_str ha hb
theorem pq_addL (m : Bool) (ha : PQ X T a ta) (hb : PQ X T b tb) : PQ X T (.BinOp a .Add b pos) (qOp (qAddL m) ta tb) := pq_op (by
  intro F A H x y xv yv P Q R rx ry h k
  unfold qAddL at h
  split at h
  · cases rx with
    | lst hx rx =>
      cases ry with
      | lst hy ry =>
        exact ⟨_, _, _, _, rfl, rfl, R.sub _ _ hx, R.sub _ _ hy, by rw [rx.length, ry.length]; exact Evl.sz_of h.1, fun p hp => newL_ok R h.2 (rx.append ry) hp k⟩
  · exact h.elim) op_cat ha hb
def repL (n : Nat) (xs : List D) : List D := (List.replicate n xs).flatten
theorem Reps.flat {K : PySem.W.Frag} {F : Hp} {vs : List V} {ds : List D} (r : Reps K F vs ds) : ∀ n : Nat, Reps K F (List.replicate n vs).flatten (List.replicate n ds).flatten
  | 0 => .nil
  | n + 1 => by
    rw [List.replicate_succ, List.replicate_succ, List.flatten_cons, List.flatten_cons]
    exact r.append (Reps.flat r n)
/-- xs * n -/
def qMulL (m : Bool) : R2Q := fun x y A P => match x, y with | .lst xs, .int n => 0 ≤ n ∧ n ≤ 100000 ∧ xs.length * n.toNat ≤ 100000 ∧ newL m (repL n.toNat xs) A P | _, _ => False
theorem pq_mulL (m : Bool) (ha : PQ X T a ta) (hb : PQ X T b tb) : PQ X T (.BinOp a .Mult b pos) (qOp (qMulL m) ta tb) := pq_op (by
  intro F A H x y xv yv P Q R rx ry h k
  unfold qMulL at h
  split at h
  · obtain ⟨h1, h2, h3, h4⟩ := h
    rw [ry.int_inv]
    cases rx with
    | lst hx rx =>
      exact ⟨_, _, _, rfl, rfl, R.sub _ _ hx, by omega, by omega, by rw [rx.length]; exact Evl.sz_of h3, fun p hp => newL_ok R h4 (rx.flat _) hp k⟩
  · exact h.elim) op_rep ha hb

/-! ### == -/
mutual
def toPy : D → Option PyData
  | .non => some .none
  | .bl b => some (.bool b)
  | .int i => some (.int i)
  | .str x => some (.str x)
  | .tup xs => (toPys xs).map .tuple
  | .lst xs => (toPys xs).map .list
  | _ => none
def toPys : List D → Option (List PyData)
  | [] => some []
  | x :: xs => match toPy x, toPys xs with | some d, some ds => some (d :: ds) | _, _ => none
end
mutual
theorem toPy_dp {K : PySem.W.Frag} {F H : Hp} (e : Same F H) : ∀ {v : V} {d : D} {p : PyData}, Rep K F v d → toPy d = some p → Dp K H v p
  | _, _, _, .non, h => by simp only [toPy, Option.some.injEq] at h; subst h; exact .non
  | _, _, _, .bl b, h => by simp only [toPy, Option.some.injEq] at h; subst h; exact .bl b
  | _, _, _, .int b, h => by simp only [toPy, Option.some.injEq] at h; subst h; exact .int b
  | _, _, _, .str b, h => by simp only [toPy, Option.some.injEq] at h; subst h; exact .str b
  | _, _, _, .ty b, h => by simp [toPy] at h
  | _, _, _, .tup hs r, h => by
    simp only [toPy, Option.map_eq_some_iff] at h
    obtain ⟨ps, h1, rfl⟩ := h
    exact .tup (sqT_mono e hs) (toPys_dp e r h1)
  | _, _, _, .lst hs r, h => by
    simp only [toPy, Option.map_eq_some_iff] at h
    obtain ⟨ps, h1, rfl⟩ := h
    exact .lst (.of (e _ _ hs)) (toPys_dp e r h1)
  | _, _, _, .dic _ _, h => by simp [toPy] at h
  | _, _, _, .gdc _ _, h => by simp [toPy] at h
  | _, _, _, .mut _, h => by simp [toPy] at h
  | _, _, _, .fn _, h => by simp [toPy] at h
  | _, _, _, .frl _ _, h => by simp [toPy] at h
theorem toPys_dp {K : PySem.W.Frag} {F H : Hp} (e : Same F H) : ∀ {vs : List V} {ds : List D} {ps : List PyData}, Reps K F vs ds → toPys ds = some ps → DpAll K H vs ps
  | _, _, _, .nil, h => by simp only [toPys, Option.some.injEq] at h; subst h; exact .nil
  | _, _, _, @Reps.cons _ _ v d vs ds r rr, h => by
    simp only [toPys] at h
    cases h1 : toPy d with
    | none => rw [h1] at h; simp at h
    | some p =>
      cases h2 : toPys ds with
      | none => rw [h1, h2] at h; simp at h
      | some ps =>
        rw [h1, h2] at h
        simp only [Option.some.injEq] at h
        subst h
        exact .cons (toPy_dp e r h1) (toPys_dp e rr h2)
end
/-- plain scalars -/
def sV : D → Option V
  | .non => some .non
  | .bl b => some (.bl b)
  | .int i => some (.int i)
  | .str x => some (.str x)
  | _ => none
theorem sV_rep {K : PySem.W.Frag} {F : Hp} {v w : V} {d : D} (r : Rep K F v d) (h : sV d = some w) : v = w := by
  cases r <;> simp only [sV, Option.some.injEq, reduceCtorEq] at h <;> exact h
def eqS (x y : D) : Option Bool := match sV x, sV y with | some a, some b => if scal a b = true then some (decide (a = b)) else none | _, _ => none
def eqP (x y : D) : Option Bool := match toPy x, toPy y with | some a, some b => if SeqAt.shaped a = true ∧ SeqAt.shaped b = true then some (PyData.eqv a b) else none | _, _ => none
/-- == of plain data -/
def eqD (x y : D) : Option Bool := match eqS x y with | some b => some b | none => eqP x y
def qEq : R2Q := fun x y A P => okQ (eqD x y) fun b => P (.bl b) A
def qNe : R2Q := fun x y A P => okQ (eqD x y) fun b => P (.bl (!b)) A
theorem eqS_rep {K : PySem.W.Frag} {F : Hp} {v w : V} {x y : D} {b : Bool} (rx : Rep K F v x) (ry : Rep K F w y) (h : eqS x y = some b) : scal v w = true ∧ decide (v = w) = b := by
  unfold eqS at h
  cases h1 : sV x with
  | none => rw [h1] at h; simp at h
  | some a =>
    cases h2 : sV y with
    | none => rw [h1, h2] at h; simp at h
    | some c =>
      rw [h1, h2] at h
      have e1 := sV_rep rx h1
      have e2 := sV_rep ry h2
      subst e1 e2
      by_cases hs : scal v w = true
      · simp only [hs, if_true, Option.some.injEq] at h
        exact ⟨hs, h⟩
      · simp only [hs] at h; simp at h
theorem eqP_rep {K : PySem.W.Frag} {F H : Hp} {v w : V} {x y : D} {b : Bool} (e : Same F H) (rx : Rep K F v x) (ry : Rep K F w y) (h : eqP x y = some b) : ∃ d d2, Dp K H v d ∧ Dp K H w d2 ∧ SeqAt.shaped d = true ∧ SeqAt.shaped d2 = true ∧ PyData.eqv d d2 = b := by
  unfold eqP at h
  cases h1 : toPy x with
  | none => rw [h1] at h; simp at h
  | some a =>
    cases h2 : toPy y with
    | none => rw [h1, h2] at h; simp at h
    | some c =>
      rw [h1, h2] at h
      by_cases hs : SeqAt.shaped a = true ∧ SeqAt.shaped c = true
      · simp only [hs, and_self, if_true, Option.some.injEq] at h
        exact ⟨a, c, toPy_dp e rx h1, toPy_dp e ry h2, hs.1, hs.2, h⟩
      · simp only [hs, if_false, reduceCtorEq] at h
theorem rel_eq {K : PySem.W.Frag} : Rel2 K T (fun x y H Q => rEq x y H Q ∨ rEqD K x y H Q) qEq := by
  intro F A H x y xv yv P Q R rx ry h k
  unfold qEq eqD at h
  cases h1 : eqS x y with
  | some b =>
    rw [h1] at h
    obtain ⟨hs, hb⟩ := eqS_rep rx ry h1
    exact .inl ⟨hs, by rw [hb]; exact k _ _ _ _ _ h R.go (.bl _)⟩
  | none =>
    rw [h1] at h
    cases h2 : eqP x y with
    | none => simp only [h2] at h; exact h.elim
    | some b =>
      simp only [h2] at h
      obtain ⟨d, d2, q1, q2, q3, q4, q5⟩ := eqP_rep R.sub rx ry h2
      exact .inr ⟨d, d2, q1, q2, q3, q4, by rw [q5]; exact k _ _ _ _ _ h R.go (.bl _)⟩
theorem rel_ne {K : PySem.W.Frag} : Rel2 K T (fun x y H Q => rNe x y H Q ∨ rNeD K x y H Q) qNe := by
  intro F A H x y xv yv P Q R rx ry h k
  unfold qNe eqD at h
  cases h1 : eqS x y with
  | some b =>
    rw [h1] at h
    obtain ⟨hs, hb⟩ := eqS_rep rx ry h1
    exact .inl ⟨hs, by rw [hb]; exact k _ _ _ _ _ h R.go (.bl _)⟩
  | none =>
    rw [h1] at h
    cases h2 : eqP x y with
    | none => simp only [h2] at h; exact h.elim
    | some b =>
      simp only [h2] at h
      obtain ⟨d, d2, q1, q2, q3, q4, q5⟩ := eqP_rep R.sub rx ry h2
      exact .inr ⟨d, d2, q1, q2, q3, q4, by rw [q5]; exact k _ _ _ _ _ h R.go (.bl _)⟩
theorem pq_eq (hu : X.A.units + 64 < cLine) (ha : PQ X T a ta) (hb : PQ X T b tb) : PQ X T (.Compare a [.Eq] [b] pos) (qOp qEq ta tb) := pq_cmp rel_eq (OpR.or op_eq (op_eqD hu)) ha hb (nomark _)
theorem pq_ne (hu : X.A.units + 64 < cLine) (ha : PQ X T a ta) (hb : PQ X T b tb) : PQ X T (.Compare a [.NotEq] [b] pos) (qOp qNe ta tb) := pq_cmp rel_ne (OpR.or op_ne (op_neD hu)) ha hb (nomark _)
theorem ptq_eq (hu : X.A.units + 64 < cLine) (ha : PQ X T a ta) (hb : PQ X T b tb) : PTQ X T (.Compare a [.Eq] [b] pos) (qTest (qOp qEq ta tb)) := ptq_cmp rel_eq (OpR.or op_eq (op_eqD hu)) ha hb (nomark _)
theorem ptq_ne (hu : X.A.units + 64 < cLine) (ha : PQ X T a ta) (hb : PQ X T b tb) : PTQ X T (.Compare a [.NotEq] [b] pos) (qTest (qOp qNe ta tb)) := ptq_cmp rel_ne (OpR.or op_ne (op_neD hu)) ha hb (nomark _)

/-! ### order of ints, texts -/
abbrev qLtI : R2Q := qI fun i j => .bl (decide (i < j))
abbrev qLeI : R2Q := qI fun i j => .bl (decide (i ≤ j))
abbrev qGtI : R2Q := qI fun i j => .bl (decide (j < i))
abbrev qGeI : R2Q := qI fun i j => .bl (decide (j ≤ i))
theorem ptq_ltI (ha : PQ X T a ta) (hb : PQ X T b tb) : PTQ X T (.Compare a [.Lt] [b] pos) (qTest (qOp qLtI ta tb)) := ptq_cmp (rel_I fun _ _ _ => .bl _) op_lt ha hb (nomark _)
theorem ptq_leI (ha : PQ X T a ta) (hb : PQ X T b tb) : PTQ X T (.Compare a [.LtE] [b] pos) (qTest (qOp qLeI ta tb)) := ptq_cmp (rel_I fun _ _ _ => .bl _) op_le ha hb (nomark _)
theorem ptq_gtI (ha : PQ X T a ta) (hb : PQ X T b tb) : PTQ X T (.Compare a [.Gt] [b] pos) (qTest (qOp qGtI ta tb)) := ptq_cmp (rel_I fun _ _ _ => .bl _) op_gt ha hb (nomark _)
theorem ptq_geI (ha : PQ X T a ta) (hb : PQ X T b tb) : PTQ X T (.Compare a [.GtE] [b] pos) (qTest (qOp qGeI ta tb)) := ptq_cmp (rel_I fun _ _ _ => .bl _) op_ge ha hb (nomark _)
theorem pq_ltI (ha : PQ X T a ta) (hb : PQ X T b tb) : PQ X T (.Compare a [.Lt] [b] pos) (qOp qLtI ta tb) := pq_cmp (rel_I fun _ _ _ => .bl _) op_lt ha hb (nomark _)
theorem pq_leI (ha : PQ X T a ta) (hb : PQ X T b tb) : PQ X T (.Compare a [.LtE] [b] pos) (qOp qLeI ta tb) := pq_cmp (rel_I fun _ _ _ => .bl _) op_le ha hb (nomark _)
theorem pq_gtI (ha : PQ X T a ta) (hb : PQ X T b tb) : PQ X T (.Compare a [.Gt] [b] pos) (qOp qGtI ta tb) := pq_cmp (rel_I fun _ _ _ => .bl _) op_gt ha hb (nomark _)
theorem pq_geI (ha : PQ X T a ta) (hb : PQ X T b tb) : PQ X T (.Compare a [.GtE] [b] pos) (qOp qGeI ta tb) := pq_cmp (rel_I fun _ _ _ => .bl _) op_ge ha hb (nomark _)
/-- l <= x <= u of ints -/
theorem pq_chainLeLe (ha : PQ X T a ta) (hb : PQ X T b tb) (hc : PQ X T c tc) (hm : lastMarks [.LtE, .LtE] [b, c] = false := by rfl) : PQ X T (.Compare a [.LtE, .LtE] [b, c] pos) (qChain qLeI qLeI ta tb tc) :=
  pq_chain (rel_I fun _ _ _ => .bl _) (rel_I fun _ _ _ => .bl _) op_le op_le ha hb hc hm
def qStr (g : Str → Str → Bool) : R2Q := fun x y A P => match x, y with | .str i, .str j => P (.bl (g i j)) A | _, _ => False
abbrev ltS (i j : Str) : Bool := decide (i.cps.toList < j.cps.toList)
theorem rel_str {K : PySem.W.Frag} {g : Str → Str → Bool} : Rel2 K T (fun x y H Q => ∃ i j, x = .str i ∧ y = .str j ∧ Q (.bl (g i j)) H) (qStr g) := by
  intro F A H x y xv yv P Q RR rx ry h k
  unfold qStr at h
  split at h
  · rw [rx.str_inv, ry.str_inv]
    exact ⟨_, _, rfl, rfl, k _ _ _ _ _ h RR.go (.bl _)⟩
  · exact h.elim
abbrev gtS (i j : Str) : Bool := decide (j.cps.toList < i.cps.toList)
theorem pq_gtS (ha : PQ X T a ta) (hb : PQ X T b tb) : PQ X T (.Compare a [.Gt] [b] pos) (qOp (qStr gtS) ta tb) := pq_cmp (rel_str (g := gtS)) op_gt_str ha hb (nomark _)
theorem ptq_gtS (ha : PQ X T a ta) (hb : PQ X T b tb) : PTQ X T (.Compare a [.Gt] [b] pos) (qTest (qOp (qStr gtS) ta tb)) := ptq_cmp (rel_str (g := gtS)) op_gt_str ha hb (nomark _)
theorem pq_ltS (ha : PQ X T a ta) (hb : PQ X T b tb) : PQ X T (.Compare a [.Lt] [b] pos) (qOp (qStr ltS) ta tb) := pq_cmp (rel_str (g := ltS)) op_lt_str ha hb (nomark _)
theorem ptq_ltS (ha : PQ X T a ta) (hb : PQ X T b tb) : PTQ X T (.Compare a [.Lt] [b] pos) (qTest (qOp (qStr ltS) ta tb)) := ptq_cmp (rel_str (g := ltS)) op_lt_str ha hb (nomark _)
/-- one sign in a text -/
def inSg (a z : Str) : Option Bool := match a.cps.toList with | [c] => some (decide (c ∈ z.cps.toList)) | _ => none
def qInS (neg : Bool) : R2Q := fun x y A P => match x, y with | .str a, .str z => okQ (inSg a z) fun b => P (.bl (if neg then !b else b)) A | _, _ => False
theorem str_one {a : Str} {c : Nat} (h : a.cps.toList = [c]) : a = ⟨#[c]⟩ := by
  obtain ⟨⟨l⟩⟩ := a
  have e : l = [c] := h
  subst e; rfl
theorem rel_inS {K : PySem.W.Frag} : Rel2 K T (fun x y H Q => ∃ (c : Nat) (z : Str), x = .str ⟨#[c]⟩ ∧ y = .str z ∧ Q (.bl (decide (c ∈ z.cps.toList))) H) (qInS false) := by
  intro F A H x y xv yv P Q RR rx ry h k
  unfold qInS at h
  split at h
  · rename_i a z
    rw [rx.str_inv, ry.str_inv]
    cases e : inSg a z with
    | none => rw [e] at h; exact h.elim
    | some b =>
      rw [e] at h
      unfold inSg at e
      split at e
      · rename_i c hc
        injection e with e
        subst e
        exact ⟨c, z, by rw [str_one hc], rfl, k _ _ _ _ _ h RR.go (.bl _)⟩
      · cases e
  · exact h.elim
theorem pq_inS (ha : PQ X T a ta) (hb : PQ X T b tb) (hm : behindInMarks .In b = false := by rfl) : PQ X T (.Compare a [.In] [b] pos) (qOp (qInS false) ta tb) := pq_cmp rel_inS op_in_sign ha hb hm
theorem ptq_inS (ha : PQ X T a ta) (hb : PQ X T b tb) (hm : behindInMarks .In b = false := by rfl) : PTQ X T (.Compare a [.In] [b] pos) (qTest (qOp (qInS false) ta tb)) := ptq_cmp rel_inS op_in_sign ha hb hm
/-- x in a list or tuple of flat things -/
def flD : D → Bool
  | .non => true
  | .bl _ => true
  | .int _ => true
  | .str _ => true
  | _ => false
def fV : D → V
  | .bl b => .bl b
  | .int i => .int i
  | .str x => .str x
  | _ => .non
theorem fV_rep {K : PySem.W.Frag} {F : Hp} {v : V} {d : D} (r : Rep K F v d) (h : flD d = true) : v = fV d ∧ flatV v = true := by
  cases r <;> first | exact ⟨rfl, rfl⟩ | (simp [flD] at h)
theorem fVs_rep {K : PySem.W.Frag} {F : Hp} : ∀ {vs : List V} {ds : List D}, Reps K F vs ds → ds.all flD = true → vs = ds.map fV ∧ vs.all flatV = true
  | _, _, .nil, _ => ⟨rfl, rfl⟩
  | _, _, .cons r rr, h => by
    simp only [List.all_cons, Bool.and_eq_true] at h
    obtain ⟨h1, h2⟩ := fV_rep r h.1
    obtain ⟨h3, h4⟩ := fVs_rep rr h.2
    exact ⟨by rw [h1, h3] <;> rfl, by simp only [List.all_cons, h2, h4, Bool.and_self]⟩
def inD (x : D) (xs : List D) : Bool := inV (fV x) (xs.map fV)
def qIn (neg : Bool) : R2Q := fun x y A P => match y with
  | .lst xs => flD x = true ∧ xs.all flD = true ∧ P (.bl (if neg then !inD x xs else inD x xs)) A
  | .tup xs => flD x = true ∧ xs.all flD = true ∧ P (.bl (if neg then !inD x xs else inD x xs)) A
  | _ => False
theorem rel_in {K : PySem.W.Frag} {neg : Bool} : Rel2 K T (rIn K neg) (qIn neg) := by
  intro F A H x y xv yv P Q RR rx ry h k
  unfold qIn at h
  split at h
  · cases ry with
    | lst hy ry =>
      obtain ⟨h1, h2⟩ := fV_rep rx h.1
      obtain ⟨h3, h4⟩ := fVs_rep ry h.2.1
      exact ⟨_, _, rfl, .inl (.of (RR.sub _ _ hy)), h2, h4, by rw [h1, h3]; exact k _ _ _ _ _ h.2.2 RR.go (.bl _)⟩
  · cases ry with
    | tup hy ry =>
      obtain ⟨h1, h2⟩ := fV_rep rx h.1
      obtain ⟨h3, h4⟩ := fVs_rep ry h.2.1
      exact ⟨_, _, rfl, .inr (sqT_mono RR.sub hy), h2, h4, by rw [h1, h3]; exact k _ _ _ _ _ h.2.2 RR.go (.bl _)⟩
  · exact h.elim
theorem ptq_in (ha : PQ X T a ta) (hb : PQ X T b tb) (hm : behindInMarks .In b = false := by rfl) : PTQ X T (.Compare a [.In] [b] pos) (qTest (qOp (qIn false) ta tb)) := ptq_cmp rel_in op_in_seq ha hb hm
theorem ptq_notin (ha : PQ X T a ta) (hb : PQ X T b tb) (hm : behindInMarks .NotIn b = false := by rfl) : PTQ X T (.Compare a [.NotIn] [b] pos) (qTest (qOp (qIn true) ta tb)) := ptq_cmp rel_in op_notIn_seq ha hb hm

/-! ### is None -/
def isN : D → Bool
  | .non => true
  | _ => false
theorem isN_rep {K : PySem.W.Frag} {F : Hp} {v : V} {d : D} (r : Rep K F v d) : decide (v = .non) = isN d := by
  cases r <;> simp [isN]
def qIsN : R2Q := fun x y A P => match y with | .non => P (.bl (isN x)) A | _ => False
def qNotN : R2Q := fun x y A P => match y with | .non => P (.bl (!isN x)) A | _ => False
theorem rel_isN {K : PySem.W.Frag} : Rel2 K T (fun x y H Q => y = .non ∧ Q (.bl (decide (x = .non))) H) qIsN := by
  intro F A H x y xv yv P Q RR rx ry h k
  unfold qIsN at h
  split at h
  · rw [ry.non_inv]
    exact ⟨rfl, by rw [isN_rep rx]; exact k _ _ _ _ _ h RR.go (.bl _)⟩
  · exact h.elim
theorem rel_notN {K : PySem.W.Frag} : Rel2 K T (fun x y H Q => y = .non ∧ Q (.bl (!decide (x = .non))) H) qNotN := by
  intro F A H x y xv yv P Q RR rx ry h k
  unfold qNotN at h
  split at h
  · rw [ry.non_inv]
    exact ⟨rfl, by rw [isN_rep rx]; exact k _ _ _ _ _ h RR.go (.bl _)⟩
  · exact h.elim
theorem pq_isN (ha : PQ X T a ta) (hb : PQ X T b tb) : PQ X T (.Compare a [.Is] [b] pos) (qOp qIsN ta tb) := pq_cmp rel_isN op_isN ha hb (nomark _)
theorem ptq_isN (ha : PQ X T a ta) (hb : PQ X T b tb) : PTQ X T (.Compare a [.Is] [b] pos) (qTest (qOp qIsN ta tb)) := ptq_cmp rel_isN op_isN ha hb (nomark _)
theorem pq_notN (ha : PQ X T a ta) (hb : PQ X T b tb) : PQ X T (.Compare a [.IsNot] [b] pos) (qOp qNotN ta tb) := pq_cmp rel_notN op_notN ha hb (nomark _)
theorem ptq_notN (ha : PQ X T a ta) (hb : PQ X T b tb) : PTQ X T (.Compare a [.IsNot] [b] pos) (qTest (qOp qNotN ta tb)) := ptq_cmp rel_notN op_notN ha hb (nomark _)

/-! ### subscripts, slices -/
def qIx : R2Q := fun x y A P => match x, y with
  | .lst xs, .int i => okQ (atI xs i) fun d => P d A
  | .tup xs, .int i => okQ (atI xs i) fun d => P d A
  | .mut a, .int i => match A a with | some (.lst xs) => okQ (atI xs i) fun d => P d A | _ => False
  | .str z, .int i => z.length ≤ 100000 ∧ okQ (atI z.cps.toList i) fun c => P (.str ⟨#[c]⟩) A
  | _, _ => False
theorem rel_ix {K : PySem.W.Frag} : Rel2 K T (rIx K) qIx := by
  intro F A H x y xv yv P Q RR rx ry h k
  unfold qIx at h
  split at h
  · rename_i xs i
    cases rx with
    | lst hx rx =>
      rw [ry.int_inv]
      cases e : atI xs i with
      | none => rw [e] at h; exact h.elim
      | some d =>
        rw [e] at h
        obtain ⟨v, h1, h2⟩ := rx.atI e
        exact .inl ⟨_, _, _, v, rfl, rfl, .of (RR.sub _ _ hx), h1, k _ _ _ _ _ h RR.go h2⟩
  · rename_i xs i
    cases rx with
    | tup hx rx =>
      rw [ry.int_inv]
      cases e : atI xs i with
      | none => rw [e] at h; exact h.elim
      | some d =>
        rw [e] at h
        obtain ⟨v, h1, h2⟩ := rx.atI e
        exact .inr (.inl ⟨_, _, _, v, rfl, rfl, sqT_mono RR.sub hx, h1, k _ _ _ _ _ h RR.go h2⟩)
  · rename_i a i
    rw [rx.mut_inv, ry.int_inv]
    split at h
    · rename_i xs hA
      obtain ⟨vs, hH, rv⟩ := (RR.mem a _ hA).2
      cases e : atI xs i with
      | none => rw [e] at h; exact h.elim
      | some d =>
        rw [e] at h
        obtain ⟨v, h1, h2⟩ := rv.atI e
        exact .inl ⟨_, _, _, v, rfl, rfl, .of hH, h1, k _ _ _ _ _ h RR.go h2⟩
    · exact h.elim
  · rename_i z i
    rw [rx.str_inv, ry.int_inv]
    cases e : atI z.cps.toList i with
    | none => rw [e] at h; exact h.2.elim
    | some c =>
      rw [e] at h
      exact .inr (.inr ⟨z, i, c, rfl, rfl, Evl.sz_of h.1, e, k _ _ _ _ _ h.2 RR.go (.str _)⟩)
  · exact h.elim
theorem pq_ix (ha : PQ X T a ta) (hb : PQ X T b tb) (hs : PlainIx b := by exact fun _ _ => rfl) : PQ X T (.Subscript a b pos) (qOp qIx ta tb) :=
  ⟨(pe_ix ix_seq ha.pe hb.pe hs).wk fun _ _ _ h => lift_op rel_ix h⟩
/-- a slice's bound -/
abbrev TOQ := SQ → MH → (Option Int → MH → Prop) → Prop
def liftO (K : PySem.W.Frag) (T : Tz) (t : TOQ) : TO := fun σ H Q => ∃ F A s, Rs K F s σ ∧ RS K T F A H ∧ ∃ P : Option Int → MH → Prop, t s A P ∧ ∀ b A' H' F', P b A' → Go K T F A H F' A' H' → Q b H'
structure POQ (X : Cx) (T : Tz) (e : Option Expr) (t : TOQ) : Prop where
  po : PO X e (liftO X.K T t)
def qoNone : TOQ := fun _ A P => P none A
def qoSome (t : TQ) : TOQ := fun s A P => t s A fun d A1 => match d with | .int i => P (some i) A1 | _ => False
theorem poq_none : POQ X T none qoNone := ⟨⟨fun pins s σ H Q I h => po_none.run pins s σ H Q I (by
  obtain ⟨F, A, s, hs, hR, P, ht, k⟩ := h
  exact k _ _ _ _ ht hR.go)⟩⟩
theorem poq_some (h : PQ X T e te) : POQ X T (some e) (qoSome te) := ⟨⟨fun pins s σ H Q I hh => (po_some h.pe).run pins s σ H Q I (by
  obtain ⟨F, A, s, hs, hR, P, ht, k⟩ := hh
  refine ⟨F, A, s, hs, hR, _, ht, fun d A' v H' F' p g r => ?_⟩
  cases d with
  | int i => cases r; exact ⟨i, rfl, k _ _ _ _ p g⟩
  | _ => exact p.elim)⟩⟩
def cutD (xs : List D) (lo hi : Option Int) : List D := (xs.drop (HT.sIx xs.length 0 lo)).take (HT.sIx xs.length xs.length hi - HT.sIx xs.length 0 lo)
theorem Reps.cut {K : PySem.W.Frag} {F : Hp} {vs : List V} {ds : List D} (r : Reps K F vs ds) (lo hi : Option Int) : Reps K F (cutV vs lo hi) (cutD ds lo hi) := by
  unfold cutV cutD
  rw [r.length]
  exact (r.drop _).take _
def qSl (m : Bool) (te : TQ) (tl th : TOQ) : TQ := fun s A P => te s A fun x A1 => tl s A1 fun lo A2 => th s A2 fun hi A3 => match x with
  | .lst xs => newL m (cutD xs lo hi) A3 P
  | .str z => z.length ≤ 100000 ∧ P (.str (cutS z lo hi)) A3
  | .tup xs => P (.tup (cutD xs lo hi)) A3
  | _ => False
theorem pq_slice (m : Bool) {lo hi : Option Expr} {tl th : TOQ} {p2 : Pos} (he : PQ X T e te) (hl : POQ X T lo tl) (hu : POQ X T hi th) : PQ X T (.Subscript e (.Slice lo hi none p2) pos) (qSl m te tl th) :=
  ⟨(pe_slice (SlR.or (SlR.or sl_list sl_str) sl_tupA) he.pe hl.po hu.po).wk fun σ H Q h => by
    obtain ⟨F, A, s, hs, hR, P, ht, k⟩ := h
    refine ⟨F, A, s, hs, hR, _, ht, fun x A1 xv H1 F1 p1 g1 r1 => ?_⟩
    refine ⟨F1, A1, s, hs.mono g1.ext, g1.rs, _, p1, fun l A2 H2 F2 p2 g2 => ?_⟩
    refine ⟨F2, A2, s, (hs.mono g1.ext).mono g2.ext, g2.rs, _, p2, fun u A3 H3 F3 p3 g3 => ?_⟩
    have gg := (g1.trans g2).trans g3
    have r3 := r1.mono (g2.trans g3).ext
    cases x with
    | lst xs =>
      cases r3 with
      | lst hx rx => exact .inl (.inl ⟨_, _, rfl, .of (g3.rs.sub _ _ hx), fun p hp => newL_ok g3.rs p3 (rx.cut l u) hp fun d A' v H' F' p g r => k _ _ _ _ _ p (gg.trans g) r⟩)
    | str z =>
      cases r3
      exact .inl (.inr ⟨z, rfl, Evl.sz_of p3.1, k _ _ _ _ _ p3.2 gg (.str _)⟩)
    | tup xs =>
      cases r3 with
      | @tup a vs _ hx rx =>
        refine .inr ⟨_, _, rfl, sqT_mono g3.rs.sub hx, fun hw => ?_, fun _ p hp => newT_ok g3.rs p3 (rx.cut l u) hp fun d A' v H' F' p g r => k _ _ _ _ _ p (gg.trans g) r⟩
        refine k _ _ _ _ _ p3 gg ?_
        have e : cutD xs l u = xs := by
          unfold cutD
          rw [rx.length] at hw
          rw [hw.1, hw.2]
          simp
        rw [e]
        exact .tup hx rx
    | _ => exact p3.elim⟩
/-- xs[::-1] -/
def qRevL (m : Bool) (te : TQ) : TQ := fun s A P => te s A fun x A1 => match x with | .lst xs => newL m xs.reverse A1 P | _ => False
theorem pq_revL (m : Bool) {k : Nat} {p1 p2 p3 : Pos} (he : PQ X T e te) : PQ X T (.Subscript e (.Slice none none (some (.UnaryOp .USub (.Constant (.int 1) k p1) p2)) p3) pos) (qRevL m te) :=
  ⟨(pe_revL he.pe).wk fun σ H Q h => by
    obtain ⟨F, A, s, hs, hR, P, ht, k⟩ := h
    refine ⟨F, A, s, hs, hR, _, ht, fun x A1 xv H1 F1 p1 g1 r1 => ?_⟩
    cases x with
    | lst xs =>
      cases r1 with
      | lst hx rx => exact ⟨_, _, rfl, .of (g1.rs.sub _ _ hx), fun p hp => newL_ok g1.rs p1 rx.reverse hp fun d A' v H' F' p g r => k _ _ _ _ _ p (g1.trans g) r⟩
    | _ => exact p1.elim⟩
end
end Qd


set_option Elab.async false
set_option linter.all false
set_option maxRecDepth 100000
set_option maxHeartbeats 4000000
/-! Second layer, part D: built-ins over data. -/
namespace Qd
open PySem L2

/-! ### a built-in's call over data -/
section
variable (K : PySem.W.Frag) (T : Tz)
def liftN (r : RNQ) : List V → Hp → VK → Prop := fun vs H Q => ∃ F A ds, Reps K F vs ds ∧ RS K T F A H ∧ ∃ P : KQ, r ds A P ∧ ∀ d A' v H' F', P d A' → Go K T F A H F' A' H' → Rep K F' v d → Q v H'
end
theorem relN_lift {K : PySem.W.Frag} {T : Tz} {r : RNQ} : RelN K T (liftN K T r) r := fun R rx h k => ⟨_, _, _, rx, R, _, h, k⟩
/-- f, called with data, does as r says -/
structure CQ (X : Cx) (T : Tz) (f : Value) (r : RNQ) : Prop where
  cr : CallR X f (liftN X.K T r)
theorem cq_of {X : Cx} {T : Tz} {f : Value} {R : List V → Hp → VK → Prop} {r : RNQ} (hc : CallR X f R) (rel : RelN X.K T R r) : CQ X T f r := ⟨fun pins s σ H xs us Q I rv h => by
  obtain ⟨F, A, ds, h1, h2, P, h3, h4⟩ := h
  exact hc pins s σ H xs us Q I rv (rel h2 h1 h3 h4)⟩
section
variable {X : Cx} {T : Tz} {e a b c : Expr} {es : List Expr} {te ta tb tc : TQ} {t : TAQ} {pos : Pos} {r : RNQ}
theorem pq_bi {x : Str} {id : String} {p : Pos} (hc : CQ X T (.builtin id) r) (hm : X.mg x = none) (ha : PAQ X T (e :: es) t) (hv : bootBuiltins x = some (.builtin id) := by decide +kernel) (hg : Gl X x := by rfl)
    (hn : x ≠ "__name__" := by decide) (hdb : (x == ("__debug__" : Str)) = false := by decide)
    (he : starEach (e :: es) X.env = (false, eval e X.env) :: starEach es X.env := by rfl) (hpl : (backTo pos (starEach es X.env)).any (·.1) = false := by rfl) : PQ X T (.Call (.Name x p) (e :: es) [] pos) (qCB r t) :=
  pq_callB relN_lift hc.cr hm ha hv hg hn hdb he hpl
theorem pq_bt {x : Str} {id : String} {p : Pos} (hc : CQ X T (.type id) r) (hm : X.mg x = none) (ha : PAQ X T (e :: es) t) (hv : bootBuiltins x = some (.type id) := by decide +kernel) (hg : Gl X x := by rfl)
    (hn : x ≠ "__name__" := by decide) (hdb : (x == ("__debug__" : Str)) = false := by decide)
    (he : starEach (e :: es) X.env = (false, eval e X.env) :: starEach es X.env := by rfl) (hpl : (backTo pos (starEach es X.env)).any (·.1) = false := by rfl) : PQ X T (.Call (.Name x p) (e :: es) [] pos) (qCB r t) :=
  pq_callTy relN_lift hc.cr hm ha hv hg hn hdb he hpl
theorem _root_.Qd.PQ.wk {u : TQ} (h : PQ X T e te) (w : ∀ s A P, u s A P → te s A P) : PQ X T e u := ⟨h.pe.wk fun σ H Q ⟨F, A, s, h1, h2, P, h3, h4⟩ => ⟨F, A, s, h1, h2, P, w _ _ _ h3, h4⟩⟩
end

/-! ### dicts as they stand -/
def RawD (h : Heap) (a : Addr) (ps : List (V × V)) : Prop := (a == sysModules) = false ∧ ps.length ≤ sizeLine ∧ ∃ (o : Obj) (es : Array DictEntry) (ep : Nat), h.get? a = some o ∧ o.ExactDict ∧ o.data = .dict es ep ∧ es.size = ps.length ∧
  Paired (fun (p : V × V) (e : DictEntry) => RelV p.1 e.key ∧ RelV p.2 e.val) ps es.toList
theorem raw_dK {P : Program} {w : World} {H : Hp} {h : Heap} {a : Addr} {kvs : List (Key × V)} (x : ObjOk P w H h a (.dK kvs)) : RawD h a (kvs.map fun p => (kV p.1, p.2)) := by
  obtain ⟨z, lo, vs, kv, o, es, ep, h1, h2, h3, _, h5, _⟩ := x
  have hp : ∀ {kvs : List (Key × V)} {vs : List (Key × Value)} {es : List DictEntry}, KV kvs vs → Pairs (mixKind P w) es vs → Paired (fun (p : V × V) (e : DictEntry) => RelV p.1 e.key ∧ RelV p.2 e.val) (kvs.map fun p => (kV p.1, p.2)) es := by
    intro kvs vs es kv
    induction kv generalizing es with
    | nil => intro q; cases q; exact .nil
    | @cons p q ps qs hh t ih =>
      intro z
      cases z with
      | cons a1 a2 a3 =>
        refine .cons ⟨?_, ?_⟩ (ih a3)
        · show RelV (kV p.1) _
          rw [hh.1]; exact relV_key a1
        · show RelV p.2 _
          rw [a2]; exact hh.2
  have hh := hp kv h5
  have hl := hh.length
  refine ⟨lo, by rw [List.length_map]; exact z, o, es, ep, h1, h2, h3, ?_, hh⟩
  rw [hl]; simp
theorem raw_g {P : Program} {w : World} {H : Hp} {h : Heap} {a : Addr} {ps : List (V × V)} (x : ObjOk P w H h a (GD a ps)) : RawD h a ps := by
  obtain ⟨⟨lo, o, es, ep, h1, h2, h3, h4, h5⟩, _⟩ := x
  have hl := h5.length
  have hl2 : es.toList.length = es.size := by simp
  exact ⟨lo, by omega, o, es, ep, h1, h2, h3, by omega, h5⟩
/-- a dict's entries, whatever stands for it -/
def entD (A : MH) : D → Option (List (D × D))
  | .dic kvs => some (kvs.map fun p => (kD p.1, p.2))
  | .gdc kvs => some kvs
  | .mut a => match A a with | some (.dic kvs) => some (kvs.map fun p => (kD p.1, p.2)) | _ => none
  | _ => none
theorem rep_kD {K : PySem.W.Frag} {F : Hp} (k : Key) : Rep K F (kV k) (kD k) := by
  cases k with
  | inl i => exact .int i
  | inr x => exact .str x
theorem KvRep.k {K : PySem.W.Frag} {F : Hp} : ∀ {ps : List (Key × V)} {ds : List (Key × D)}, KvRep K F ps ds → RepK K F (ps.map fun p => (kV p.1, p.2)) (ds.map fun p => (kD p.1, p.2))
  | _, _, .nil => .nil
  | _, _, .cons r t => .cons (rep_kD _) r (KvRep.k t)
theorem RepK.length {K : PySem.W.Frag} {F : Hp} : ∀ {ps : List (V × V)} {ds : List (D × D)}, RepK K F ps ds → ps.length = ds.length
  | _, _, .nil => rfl
  | _, _, .cons _ _ t => by rw [List.length_cons, List.length_cons, RepK.length t]
theorem ent_rep {X : Cx} {T : Tz} {pins : List (Addr × Obj)} {σ : St} {F H : Hp} {A : MH} {s : Shared} {v : V} {d : D} {kvs : List (D × D)} (I : Inv X pins σ H s) (R : RS X.K T F A H) (r : Rep X.K F v d) (h : entD A d = some kvs) :
    ∃ a ps, v = .ref a ∧ RawD s.heap a ps ∧ RepK X.K F ps kvs := by
  cases r with
  | dic h1 h2 =>
    simp only [entD, Option.some.injEq] at h; subst h
    exact ⟨_, _, rfl, raw_dK (I.hok _ _ (R.sub _ _ h1)).2, h2.k⟩
  | gdc h1 h2 =>
    simp only [entD, Option.some.injEq] at h; subst h
    exact ⟨_, _, rfl, raw_g (I.hok _ _ (R.sub _ _ h1)), h2⟩
  | «mut» a =>
    simp only [entD] at h
    split at h
    · rename_i xs e
      simp only [Option.some.injEq] at h; subst h
      obtain ⟨vs, h1, h2⟩ := (R.mem a _ e).2
      exact ⟨_, _, rfl, raw_dK (I.hok _ _ h1), h2.k⟩
    · cases h
  | _ => simp [entD] at h

/-! ### kinds of data: isinstance -/
inductive Ty where
  | non | bl | int | str | tup | lst | dic
  deriving DecidableEq
def Ty.name : Ty → String
  | .non => "NoneType" | .bl => "bool" | .int => "int" | .str => "str" | .tup => "tuple" | .lst => "list" | .dic => "dict"
def Ty.sub (t c : Ty) : Bool := decide (t = c) || (decide (t = .bl) && decide (c = .int))
/-- the kind of a datum -/
def tyQ (A : MH) : D → Option Ty
  | .non => some .non | .bl _ => some .bl | .int _ => some .int | .str _ => some .str | .tup _ => some .tup | .lst _ => some .lst | .dic _ => some .dic | .gdc _ => some .dic | .frl _ => some .lst
  | .mut a => match A a with | some (.lst _) => some .lst | some (.dic _) => some .dic | some (.dit _) => some .dic | _ => none
  | _ => none
theorem kitB_ty (t c : Ty) (h : c ≠ .non) : kitB t.name c.name = some (t.sub c) := by
  cases t <;> cases c <;> first | exact absurd rfl h | decide +kernel
theorem kitAny_ty {K : PySem.W.Frag} (t : Ty) : ∀ cs : List Ty, (∀ c ∈ cs, c ≠ .non) → PySem.W.kitAny K (.type t.name) (cs.map fun c => .type c.name) = some (cs.any t.sub)
  | [], _ => rfl
  | c :: cs, h => by
    have h1 : PySem.W.kitOne K (.type t.name) (.type c.name) = some (t.sub c) := kit_ty (kitB_ty t c (h c (List.mem_cons_self ..)))
    have ih := kitAny_ty (K := K) t cs fun x hx => h x (List.mem_cons_of_mem _ hx)
    rw [List.map_cons]
    unfold PySem.W.kitAny
    rw [h1, List.any_cons]
    cases e : t.sub c with
    | true => simp
    | false => simp only [Bool.false_or]; exact ih
section
variable {X : Cx} {T : Tz} {pins : List (Addr × Obj)} {σ : St} {F H : Hp} {A : MH} {s : Shared}
theorem kitQ {v : V} {u : Value} {d : D} {t : Ty} (I : Inv X pins σ H s) (R : RS X.K T F A H) (r : Rep X.K F v d) (rv : RelV v u) (h : tyQ A d = some t) : ∃ P : Heap → Prop, PySem.W.KitX X.K u (.type t.name) P ∧ P s.heap ∧ u ≠ .builtin "__main__.__loader__#opaque" := by
  cases r with
  | non => simp only [tyQ, Option.some.injEq] at h; subst h; exact kit_of I rv (.base .non)
  | bl b => simp only [tyQ, Option.some.injEq] at h; subst h; exact kit_of I rv (.base (.bl b))
  | int b => simp only [tyQ, Option.some.injEq] at h; subst h; exact kit_of I rv (.base (.int b))
  | str b => simp only [tyQ, Option.some.injEq] at h; subst h; exact kit_of I rv (.base (.str b))
  | ty b => simp [tyQ] at h
  | tup hs _ =>
    simp only [tyQ, Option.some.injEq] at h; subst h
    cases (show u = Value.ref _ from rv)
    obtain ⟨its, _, ⟨o, h1, h2, _⟩, _⟩ := I.tuple (sqT_mono R.sub hs)
    exact ⟨_, PySem.W.kitx_tuple, ⟨o, h1, h2⟩, fun z => nomatch z⟩
  | lst hs _ => simp only [tyQ, Option.some.injEq] at h; subst h; exact kit_of I rv (.base (.lst (R.sub _ _ hs)))
  | frl hs _ =>
    simp only [tyQ, Option.some.injEq] at h; subst h
    cases (show u = Value.ref _ from rv)
    obtain ⟨its, _, ⟨o, n, h1, h2, _⟩, _⟩ := I.list (R.sub.seq hs)
    exact ⟨_, PySem.W.kitx_list, ⟨o, h1, h2⟩, fun z => nomatch z⟩
  | dic hs _ => simp only [tyQ, Option.some.injEq] at h; subst h; exact kit_of I rv (.fDict (R.sub _ _ hs))
  | gdc hs _ =>
    simp only [tyQ, Option.some.injEq] at h; subst h
    cases (show u = Value.ref _ from rv)
    obtain ⟨_, _, o, es, ep, h1, h2, _⟩ := raw_g (I.hok _ _ (R.sub _ _ hs))
    exact ⟨_, PySem.W.kitx_dict, ⟨o, h1, h2.1⟩, fun z => nomatch z⟩
  | «mut» a =>
    simp only [tyQ] at h
    split at h
    · rename_i xs e
      simp only [Option.some.injEq] at h; subst h
      obtain ⟨vs, h1, _⟩ := (R.mem a _ e).2
      exact kit_of I rv (.base (.lst h1))
    · rename_i xs e
      simp only [Option.some.injEq] at h; subst h
      obtain ⟨vs, h1, _⟩ := (R.mem a _ e).2
      exact kit_of I rv (.base (.dK h1))
    · rename_i xs e
      simp only [Option.some.injEq] at h; subst h
      obtain ⟨vs, h1, _⟩ := (R.mem a _ e).2
      exact kit_of I rv (.base (.dT h1))
    · cases h
  | fn a => simp [tyQ] at h
theorem reps_ty {K : PySem.W.Frag} : ∀ {cs : List Ty} {vs : List V}, Reps K F vs (cs.map fun c => .ty c.name) → vs = cs.map fun c => .ty c.name
  | [], _, h => by cases h; rfl
  | c :: cs, _, h => by
    cases h with
    | cons a b => rw [a.ty_inv, reps_ty b] <;> rfl
theorem vals_ty : ∀ {cs : List Ty} {us : List Value}, Vals (cs.map fun c => V.ty c.name) us → us = cs.map fun c => .type c.name
  | [], _, h => by cases h; rfl
  | c :: cs, _, h => by
    cases h with
    | cons a b => rw [show _ = Value.type c.name from a, vals_ty b] <;> rfl
end
def rIs1 : RNQ := fun xs A P => ∃ x t c, xs = [x, .ty (Ty.name c)] ∧ c ≠ .non ∧ tyQ A x = some t ∧ P (.bl (t.sub c)) A
def rIsN : RNQ := fun xs A P => ∃ x t, ∃ cs : List Ty, xs = [x, .tup (cs.map fun c => .ty c.name)] ∧ (∀ c ∈ cs, c ≠ .non) ∧ tyQ A x = some t ∧ P (.bl (cs.any t.sub)) A
section
variable {X : Cx} {T : Tz}
theorem cq_is1 : CQ X T (.builtin "isinstance") rIs1 := ⟨fun pins s σ H xs us Q I r h => by
  obtain ⟨F, A, ds, h1, R, P, ⟨x, t, c, rfl, hc, hx, p⟩, k⟩ := h
  cases h1 with
  | cons a1 b1 => cases b1 with
    | cons a2 b2 =>
      cases b2
      obtain ⟨u1, u2, rfl, r1, r2⟩ := vals2 r
      rw [a2.ty_inv] at r2
      obtain rfl : u2 = Value.type c.name := r2
      obtain ⟨PP, Z, pp, hn⟩ := kitQ I R a1 r1 hx
      exact PySem.W.kia_one Z I.kIn pp (kit_ty (kitB_ty t c hc)) hn fun tk => ⟨.bl (t.sub c), H, I.tok tk, rfl, k _ _ _ _ _ p R.go (.bl _)⟩⟩
theorem cq_isN : CQ X T (.builtin "isinstance") rIsN := ⟨fun pins s σ H xs us Q I r h => by
  obtain ⟨F, A, ds, h1, R, P, ⟨x, t, cs, rfl, hc, hx, p⟩, k⟩ := h
  cases h1 with
  | cons a1 b1 => cases b1 with
    | cons a2 b2 =>
      cases b2
      obtain ⟨u1, u2, rfl, r1, r2⟩ := vals2 r
      cases a2 with
      | @tup a vs _ hs rr =>
        obtain rfl : u2 = Value.ref a := r2
        obtain ⟨PP, Z, pp, hn⟩ := kitQ I R a1 r1 hx
        obtain ⟨its, rv, ⟨o, e1, e2, n, e3⟩, _⟩ := I.tuple (sqT_mono R.sub hs)
        rw [reps_ty rr] at rv
        have e4 := vals_ty rv
        subst e4
        obtain ⟨oc, od, dt, sl⟩ := o
        simp only at e2 e3
        subst e2 e3
        exact PySem.W.kia_tup Z I.kIn pp e1 (kitAny_ty t cs hc) hn fun tk => ⟨.bl (cs.any t.sub), H, I.tok tk, rfl, k _ _ _ _ _ p R.go (.bl _)⟩⟩
/-- isinstance(e, C), isinstance(e, (C1, ..)) -/
def qIs (cs : List Ty) (te : TQ) : TQ := fun s A P => te s A fun x A1 => okQ (tyQ A1 x) fun t => P (.bl (cs.any t.sub)) A1
theorem lift_cb2 {K : PySem.W.Frag} {ta : TQ} {r : RNQ} {d : D} {td : TQ} {r' : D → MH → KQ → Prop} (hd : ∀ s A P, P d A → td s A P) (hr : ∀ x A P, r' x A P → r [x, d] A P) {σ : St} {H : Hp} {Q : VK} (h : lift K T (fun s A P => ta s A fun x A1 => r' x A1 P) σ H Q) :
    tCB (liftN K T r) (tCons (lift K T ta) (tCons (lift K T td) tNil)) σ H Q := by
  obtain ⟨F, A, s, hs, hR, P, ht, k⟩ := h
  refine ⟨F, A, s, hs, hR, _, ht, fun x A1 xv H1 F1 p1 g1 r1 => ?_⟩
  refine ⟨F1, A1, s, hs.mono g1.ext, g1.rs, fun y A2 => y = d ∧ A2 = A1, hd _ _ _ ⟨rfl, rfl⟩, fun y A2 yv H2 F2 p2 g2 r2 => ?_⟩
  obtain ⟨rfl, rfl⟩ := p2
  exact ⟨F2, A2, [x, y], .cons (r1.mono g2.ext) (.cons r2 .nil), g2.rs, P, hr _ _ _ p1, fun d A' v H' F' p g r => k d A' v H' F' p ((g1.trans g2).trans g) r⟩
theorem pq_ist1 {a b : Expr} {ta : TQ} {x : Str} {p pos : Pos} (c : Ty) (ha : PQ X T a ta) (hb : PQ X T b (qC (.ty c.name))) (hm : X.mg x = none) (hx : x = "isinstance" := by rfl) (hc : c ≠ .non := by decide) (hg : Gl X x := by rfl)
    (he : starEach [a, b] X.env = (false, eval a X.env) :: starEach [b] X.env := by rfl) (he2 : starEach [b] X.env = (false, eval b X.env) :: starEach [] X.env := by rfl) (hpl : (backTo pos (starEach [b] X.env)).any (·.1) = false := by rfl) :
    PQ X T (.Call (.Name x p) [a, b] [] pos) (qIs [c] ta) := by
  subst hx
  refine ⟨(pe_callB (cq_is1 (T := T)).cr hg hm (by decide +kernel) (pa_cons ha.pe (pa_cons hb.pe pa_nil he2) he) (by decide) (by decide) he hpl).wk fun σ H Q h => ?_⟩
  refine lift_cb2 (d := .ty c.name) (r' := fun x A1 P => okQ (tyQ A1 x) fun t => P (.bl ([c].any t.sub)) A1) (fun s A P h => h) (fun x A P h => ?_) h
  cases hx : tyQ A x with
  | none => rw [hx] at h; exact h.elim
  | some t => rw [hx] at h; exact ⟨x, t, c, rfl, hc, hx, by simpa [okQ] using h⟩
/-- a tuple of classes as it stands in the text -/
inductive TyEs (X : Cx) (T : Tz) : List Expr → List Ty → Prop
  | nil : TyEs X T [] []
  | cons {e : Expr} {es : List Expr} {c : Ty} {cs : List Ty} (h : PQ X T e (qC (.ty c.name))) (hs : starEach (e :: es) X.env = (false, eval e X.env) :: starEach es X.env) (r : TyEs X T es cs) : TyEs X T (e :: es) (c :: cs)
theorem TyEs.paq : ∀ {es : List Expr} {cs : List Ty}, TyEs X T es cs → PAQ X T es (fun _ A P => P (cs.map fun c => .ty c.name) A)
  | _, _, .nil => ⟨paq_nil.pa⟩
  | _, _, .cons h hs r => ⟨(paq_cons h (TyEs.paq r) hs).pa⟩
theorem pq_istN {a : Expr} {es : List Expr} {cs : List Ty} {ta : TQ} {x : Str} {k : Nat} {p p2 pos : Pos} (ha : PQ X T a ta) (hb : TyEs X T es cs) (hm : X.mg x = none) (hx : x = "isinstance" := by rfl) (hc : ∀ c ∈ cs, c ≠ .non := by decide) (hl : cs.length ≤ 100000 := by decide) (hg : Gl X x := by rfl)
    (he : starEach [a, .Tuple es k p2] X.env = (false, eval a X.env) :: starEach [.Tuple es k p2] X.env := by rfl) (he2 : starEach [.Tuple es k p2] X.env = (false, eval (.Tuple es k p2) X.env) :: starEach [] X.env := by rfl) (hpl : (backTo pos (starEach [.Tuple es k p2] X.env)).any (·.1) = false := by rfl) :
    PQ X T (.Call (.Name x p) [a, .Tuple es k p2] [] pos) (qIs cs ta) := by
  subst hx
  refine ⟨(pe_callB (cq_isN (T := T)).cr hg hm (by decide +kernel) (pa_cons ha.pe (pa_cons (pq_tup hb.paq).pe pa_nil he2) he) (by decide) (by decide) he hpl).wk fun σ H Q h => ?_⟩
  refine lift_cb2 (d := .tup (cs.map fun c => .ty c.name)) (r' := fun x A1 P => okQ (tyQ A1 x) fun t => P (.bl (cs.any t.sub)) A1) (fun s A P h => ⟨by rw [List.length_map]; exact hl, h⟩) (fun x A P h => ?_) h
  cases hx : tyQ A x with
  | none => rw [hx] at h; exact h.elim
  | some t => rw [hx] at h; exact ⟨x, t, cs, rfl, hc, hx, h⟩
end
end Qd


set_option Elab.async false
set_option linter.all false
set_option maxRecDepth 100000
set_option maxHeartbeats 4000000
/-! Second layer, part E: len, all, any, sum, min, list, tuple, sorted, dict over data. -/
namespace Qd
open PySem L2

/-! ### sequences -/
def seqD (A : MH) : D → Option (List D)
  | .lst xs => some xs | .tup xs => some xs | .frl xs => some xs
  | .mut a => match A a with | some (.lst xs) => some xs | _ => none
  | _ => none
def lstD (A : MH) : D → Option (List D)
  | .lst xs => some xs | .frl xs => some xs
  | .mut a => match A a with | some (.lst xs) => some xs | _ => none
  | _ => none
section
variable {K : PySem.W.Frag} {T : Tz} {F H : Hp} {A : MH}
theorem lst_rep {v : V} {d : D} {xs : List D} (R : RS K T F A H) (r : Rep K F v d) (h : lstD A d = some xs) : ∃ a vs, v = .ref a ∧ SqL K H a vs ∧ Reps K F vs xs := by
  cases r with
  | lst h1 h2 => simp only [lstD, Option.some.injEq] at h; subst h; exact ⟨_, _, rfl, .of (R.sub _ _ h1), h2⟩
  | frl h1 h2 => simp only [lstD, Option.some.injEq] at h; subst h; exact ⟨_, _, rfl, R.sub.seq h1, h2⟩
  | «mut» a =>
    simp only [lstD] at h
    split at h
    · rename_i xs e
      simp only [Option.some.injEq] at h; subst h
      obtain ⟨vs, h1, h2⟩ := (R.mem a _ e).2
      exact ⟨_, _, rfl, .of h1, h2⟩
    · cases h
  | _ => simp [lstD] at h
theorem seq_rep {v : V} {d : D} {xs : List D} (R : RS K T F A H) (r : Rep K F v d) (h : seqD A d = some xs) : ∃ a vs, v = .ref a ∧ (SqL K H a vs ∨ SqT K H a vs) ∧ Reps K F vs xs := by
  cases r with
  | tup h1 h2 => simp only [seqD, Option.some.injEq] at h; subst h; exact ⟨_, _, rfl, .inr (sqT_mono R.sub h1), h2⟩
  | lst h1 h2 => simp only [seqD, Option.some.injEq] at h; subst h; exact ⟨_, _, rfl, .inl (.of (R.sub _ _ h1)), h2⟩
  | frl h1 h2 => simp only [seqD, Option.some.injEq] at h; subst h; exact ⟨_, _, rfl, .inl (R.sub.seq h1), h2⟩
  | «mut» a =>
    simp only [seqD] at h
    split at h
    · rename_i xs e
      simp only [Option.some.injEq] at h; subst h
      obtain ⟨vs, h1, h2⟩ := (R.mem a _ e).2
      exact ⟨_, _, rfl, .inl (.of h1), h2⟩
    · cases h
  | _ => simp [seqD] at h
end
/-! lists of ints, of texts, of bools -/
def intsD : List D → Option (List Int)
  | [] => some []
  | .int i :: r => (intsD r).map (i :: ·)
  | _ :: _ => none
def strsD : List D → Option (List Str)
  | [] => some []
  | .str i :: r => (strsD r).map (i :: ·)
  | _ :: _ => none
def blsD : List D → Option (List Bool)
  | [] => some []
  | .bl i :: r => (blsD r).map (i :: ·)
  | _ :: _ => none
theorem intsD_map (ns : List Int) : intsD (ns.map .int) = some ns := by
  induction ns with
  | nil => rfl
  | cons a r ih => simp [intsD, ih]
theorem strsD_map (ns : List Str) : strsD (ns.map .str) = some ns := by
  induction ns with
  | nil => rfl
  | cons a r ih => simp [strsD, ih]
theorem blsD_map (ns : List Bool) : blsD (ns.map .bl) = some ns := by
  induction ns with
  | nil => rfl
  | cons a r ih => simp [blsD, ih]
section
variable {K : PySem.W.Frag} {F : Hp}
theorem ints_rep : ∀ {ds : List D} {vs : List V} {ns : List Int}, Reps K F vs ds → intsD ds = some ns → vs = ns.map .int
  | [], _, ns, .nil, h => by simp only [intsD, Option.some.injEq] at h; subst h; rfl
  | d :: ds, _, ns, .cons r rr, h => by
    cases d with
    | int i =>
      simp only [intsD, Option.map_eq_some_iff] at h
      obtain ⟨ms, h1, rfl⟩ := h
      rw [r.int_inv, ints_rep rr h1] <;> rfl
    | _ => simp [intsD] at h
theorem strs_rep : ∀ {ds : List D} {vs : List V} {ns : List Str}, Reps K F vs ds → strsD ds = some ns → vs = ns.map .str
  | [], _, ns, .nil, h => by simp only [strsD, Option.some.injEq] at h; subst h; rfl
  | d :: ds, _, ns, .cons r rr, h => by
    cases d with
    | str i =>
      simp only [strsD, Option.map_eq_some_iff] at h
      obtain ⟨ms, h1, rfl⟩ := h
      rw [r.str_inv, strs_rep rr h1] <;> rfl
    | _ => simp [strsD] at h
theorem bls_rep : ∀ {ds : List D} {vs : List V} {ns : List Bool}, Reps K F vs ds → blsD ds = some ns → vs = ns.map .bl
  | [], _, ns, .nil, h => by simp only [blsD, Option.some.injEq] at h; subst h; rfl
  | d :: ds, _, ns, .cons r rr, h => by
    cases d with
    | bl i =>
      simp only [blsD, Option.map_eq_some_iff] at h
      obtain ⟨ms, h1, rfl⟩ := h
      rw [r.bl_inv, bls_rep rr h1] <;> rfl
    | _ => simp [blsD] at h
theorem reps_int : ∀ ns : List Int, Reps K F (ns.map .int) (ns.map .int)
  | [] => .nil
  | i :: r => .cons (.int i) (reps_int r)
theorem reps_str : ∀ ns : List Str, Reps K F (ns.map .str) (ns.map .str)
  | [] => .nil
  | i :: r => .cons (.str i) (reps_str r)
end

/-! ### len -/
def lenD (A : MH) (d : D) : Option Nat := match d with
  | .str x => if x.length ≤ 100000 then some x.length else none
  | .dic kvs => some kvs.length
  | .gdc kvs => some kvs.length
  | .mut a => match A a with | some (.lst xs) => some xs.length | some (.dic kvs) => some kvs.length | _ => none
  | d => (seqD A d).map List.length
def rLen : RNQ := fun xs A P => match xs with | [d] => okQ (lenD A d) fun n => P (.int n) A | _ => False
section
variable {prog : Program} {w : World} {A : Around} {E : Value → Shared → Prop} {s : Shared}
theorem len_rawD {a : Addr} {ps : List (V × V)} {Q : Value → Shared → Prop} (h : RawD s.heap a ps) (q : ∀ t tk, Q (.int ps.length t) { s with toks := tk }) : wpAny (model prog w) A (call (.builtin "len") [.ref a]) Q E s := by
  obtain ⟨lo, hz, o, es, ep, h1, h2, h3, h4, _⟩ := h
  have ty : s.TypeIs (.ref a) "dict" := ⟨o, h1, h2.1⟩
  have hz' : (es.size : Int) < 2 ^ 63 := by rw [h4]; rw [sizeLine_eq] at hz; omega
  refine Calls.call_function_entry kind_len plain_len entry_len (args_len1 _) ?_
  unfold Builtin.«len»
  refine wpAny_bind (m := oneArg "len" _) (wpAny_pure ?_)
  refine wpAny_bind (m := callSpecial? (.ref a) (Str.ofString "__len__")) (wpAny_callSpecial?_slot (name := Str.ofString "__len__") ty F.slot_dict_len (call_len_raw (es := es) (ep := ep) lo ⟨o, h1, h2, h3⟩ ?_))
  show wpAny _ _ _ _ _ { s with toks := s.toks + 1 }
  refine wpAny_bind (wpAny_holding (wpAny_pure ?_))
  refine wpAny_bind (wpAny_letGo ?_)
  show wpAny _ _ (if ((es.size : Nat) : Int) < 0 then _ else _) _ _ _
  rw [if_neg (by omega)]
  show wpAny _ _ (if ((es.size : Nat) : Int) ≥ 2 ^ 63 then _ else _) _ _ _
  rw [if_neg (by omega)]
  refine wpAny_bind (wpAny_mkInt (wpAny_pure ⟨_, rfl, ?_⟩))
  rw [h4]
  exact q _ _
end
section
variable {X : Cx} {T : Tz}
theorem cq_len : CQ X T (.builtin "len") rLen := ⟨fun pins s σ H xs us Q I r h => by
  obtain ⟨F, A, ds, h1, R, P, h2, k⟩ := h
  unfold rLen at h2
  split at h2
  · rename_i d
    cases h1 with
    | cons a b =>
      cases b
      have viaL : ∀ n, LenV X.K _ H n → P (.int n) A → wpAny (model X.prog X.w) X.A (call (.builtin "len") us) (EP X pins σ Q) X.xe s := fun n hn p => call_len pins s σ H _ us Q I r ⟨_, n, rfl, hn, k _ _ _ _ _ p R.go (.int _)⟩
      have viaS : ∀ xs, seqD A d = some xs → P (.int xs.length) A → wpAny (model X.prog X.w) X.A (call (.builtin "len") us) (EP X pins σ Q) X.xe s := fun xs hn p => by
        obtain ⟨b, vs, e1, e2, e3⟩ := seq_rep R a hn
        subst e1
        refine viaL _ ?_ p
        rw [← e3.length]
        rcases e2 with e2 | e2
        · exact .inl ⟨_, e2, rfl⟩
        · exact .inr ⟨_, e2, rfl⟩
      have viaD : ∀ kvs, entD A d = some kvs → P (.int kvs.length) A → wpAny (model X.prog X.w) X.A (call (.builtin "len") us) (EP X pins σ Q) X.xe s := fun kvs hn p => by
        obtain ⟨b, ps, e1, e2, e3⟩ := ent_rep I R a hn
        subst e1
        obtain ⟨u, rfl, ru⟩ := vals1 r
        obtain rfl : u = Value.ref b := ru
        refine len_rawD e2 fun t tk => ⟨.int kvs.length, H, I.tok _, ⟨t, by rw [e3.length]⟩, k _ _ _ _ _ p R.go (.int _)⟩
      cases d with
      | str x =>
        simp only [lenD] at h2
        split at h2
        · rename_i hx
          obtain rfl := a.str_inv
          exact viaL _ ⟨Evl.sz_of hx, rfl⟩ h2
        · exact h2.elim
      | dic kvs => exact viaD _ rfl (by rw [List.length_map]; exact h2)
      | gdc kvs => exact viaD _ rfl h2
      | «mut» b =>
        simp only [lenD] at h2
        split at h2
        · rename_i ys e
          exact viaS ys (by simp only [seqD, e]) h2
        · rename_i ys e
          exact viaD (ys.map fun p => (kD p.1, p.2)) (by simp only [entD, e]) (by rw [List.length_map]; exact h2)
        · exact h2.elim
      | lst xs => exact viaS xs rfl h2
      | tup xs => exact viaS xs rfl h2
      | frl xs => exact viaS xs rfl h2
      | _ => exact h2.elim
  · exact h2.elim⟩
/-- a rule for one argument -/
theorem reps1 {K : PySem.W.Frag} {F : Hp} {vs : List V} {d : D} (h : Reps K F vs [d]) : ∃ v, vs = [v] ∧ Rep K F v d := by
  cases h with
  | cons a b => cases b; exact ⟨_, rfl, a⟩
theorem reps2 {K : PySem.W.Frag} {F : Hp} {vs : List V} {d e : D} (h : Reps K F vs [d, e]) : ∃ v w, vs = [v, w] ∧ Rep K F v d ∧ Rep K F w e := by
  cases h with
  | cons a b => cases b with
    | cons c f => cases f; exact ⟨_, _, rfl, a, c⟩
def rAllQ : RNQ := fun xs A P => match xs with | [d] => okQ ((lstD A d).bind blsD) fun bs => P (.bl (bs.all id)) A | _ => False
def rAnyQ : RNQ := fun xs A P => match xs with | [d] => okQ ((lstD A d).bind blsD) fun bs => P (.bl (bs.any id)) A | _ => False
def rSumQ : RNQ := fun xs A P => match xs with | [d] => okQ ((lstD A d).bind intsD) fun ns => P (.int ns.sum) A | _ => False
def minI : List Int → Int
  | [] => 0
  | [a] => a
  | a :: b :: r => min a (minI (b :: r))
theorem minI_mem : ∀ {ns : List Int}, 0 < ns.length → minI ns ∈ ns ∧ ∀ y ∈ ns, minI ns ≤ y
  | [], h => absurd h (by simp)
  | [a], _ => by simp [minI]
  | a :: b :: r, _ => by
    obtain ⟨h1, h2⟩ := minI_mem (ns := b :: r) (by simp)
    have e : minI (a :: b :: r) = min a (minI (b :: r)) := rfl
    rw [e]
    refine ⟨?_, fun y hy => ?_⟩
    · rcases Int.le_total a (minI (b :: r)) with q | q
      · rw [Int.min_eq_left q]; exact List.mem_cons_self ..
      · rw [Int.min_eq_right q]; exact List.mem_cons_of_mem _ h1
    · rcases List.mem_cons.mp hy with q | q
      · subst q; exact Int.min_le_left _ _
      · exact Int.le_trans (Int.min_le_right _ _) (h2 y q)
theorem minI_uniq {ns : List Int} {m : Int} (h : 0 < ns.length) (h1 : m ∈ ns) (h2 : ∀ y ∈ ns, m ≤ y) : m = minI ns :=
  Int.le_antisymm (h2 _ (minI_mem h).1) ((minI_mem h).2 _ h1)
def maxI : List Int → Int
  | [] => 0
  | [a] => a
  | a :: b :: r => max a (maxI (b :: r))
theorem maxI_mem : ∀ {ns : List Int}, 0 < ns.length → maxI ns ∈ ns ∧ ∀ y ∈ ns, y ≤ maxI ns
  | [], h => absurd h (by simp)
  | [a], _ => by simp [maxI]
  | a :: b :: r, _ => by
    obtain ⟨h1, h2⟩ := maxI_mem (ns := b :: r) (by simp)
    have e : maxI (a :: b :: r) = max a (maxI (b :: r)) := rfl
    rw [e]
    refine ⟨?_, fun y hy => ?_⟩
    · rcases Int.le_total a (maxI (b :: r)) with q | q
      · rw [Int.max_eq_right q]; exact List.mem_cons_of_mem _ h1
      · rw [Int.max_eq_left q]; exact List.mem_cons_self ..
    · rcases List.mem_cons.mp hy with q | q
      · subst q; exact Int.le_max_left _ _
      · exact Int.le_trans (h2 y q) (Int.le_max_right _ _)
theorem maxI_uniq {ns : List Int} {m : Int} (h : 0 < ns.length) (h1 : m ∈ ns) (h2 : ∀ y ∈ ns, y ≤ m) : m = maxI ns :=
  Int.le_antisymm ((maxI_mem h).2 _ h1) (h2 _ (maxI_mem h).1)
def rMinQ : RNQ := fun xs A P => match xs with
  | [d] => okQ ((lstD A d).bind intsD) fun ns => 0 < ns.length ∧ P (.int (minI ns)) A
  | _ => False
def rMaxQ : RNQ := fun xs A P => match xs with
  | [d] => okQ ((lstD A d).bind intsD) fun ns => 0 < ns.length ∧ P (.int (maxI ns)) A
  | _ => False
def rAbsQ : RNQ := fun xs A P => match xs with | [.int i] => P (.int (if i < 0 then -i else i)) A | _ => False
def rIntQ : RNQ := fun xs A P => match xs with | [.int i] => P (.int i) A | _ => False
section
variable {K : PySem.W.Frag}
/-- a built-in over a list, whose rule asks the list's data be vs -/
theorem rel_lst {α : Type} {R : List V → Hp → VK → Prop} {f : List D → Option α} {toV : α → List V} {c : α → KQ → MH → Prop} (hf : ∀ {F : Hp} {ds : List D} {vs : List V} {x : α}, Reps K F vs ds → f ds = some x → vs = toV x)
    (hR : ∀ (a : Addr) (x : α) (F : Hp) (A : MH) (H : Hp) (P : KQ) (Q : VK), RS K T F A H → SqL K H a (toV x) → c x P A → (∀ d A' v H' F', P d A' → Go K T F A H F' A' H' → Rep K F' v d → Q v H') → R [.ref a] H Q) :
    RelN K T R (fun xs A P => match xs with | [d] => okQ ((lstD A d).bind f) fun x => c x P A | _ => False) := by
  intro F A H xs xv P Q RR rx h k
  split at h
  · rename_i d
    obtain ⟨v, rfl, rv⟩ := reps1 rx
    cases e : lstD A d with
    | none => rw [e] at h; exact h.elim
    | some ys =>
      rw [e] at h
      cases e2 : f ys with
      | none => rw [Option.bind_some, e2] at h; exact h.elim
      | some x =>
        rw [Option.bind_some, e2] at h
        obtain ⟨a, vs, rfl, h2, h3⟩ := lst_rep RR rv e
        have e3 := hf h3 e2
        subst e3
        exact hR a x F A H P Q RR h2 h k
  · exact h.elim
end
theorem cq_all (hc : X.calm = true) : CQ X T (.builtin "all") rAllQ := cq_of (cr_all hc) (rel_lst (c := fun bs P A => P (.bl (bs.all id)) A) (fun r h => bls_rep r h) fun a bs F A H P Q R h p k => ⟨a, bs, rfl, h, k _ _ _ _ _ p R.go (.bl _)⟩)
theorem cq_any (hc : X.calm = true) : CQ X T (.builtin "any") rAnyQ := cq_of (cr_any hc) (rel_lst (c := fun bs P A => P (.bl (bs.any id)) A) (fun r h => bls_rep r h) fun a bs F A H P Q R h p k => ⟨a, bs, rfl, h, k _ _ _ _ _ p R.go (.bl _)⟩)
theorem cq_sum (hc : X.calm = true) : CQ X T (.builtin "sum") rSumQ := cq_of (cr_sum hc) (rel_lst (c := fun ns P A => P (.int ns.sum) A) (fun r h => ints_rep r h) fun a bs F A H P Q R h p k => ⟨a, bs, rfl, h, k _ _ _ _ _ p R.go (.int _)⟩)
theorem cq_min (hc : X.calm = true) : CQ X T (.builtin "min") rMinQ := cq_of (cr_min hc) (rel_lst (c := fun ns P A => 0 < ns.length ∧ P (.int (minI ns)) A) (fun r h => ints_rep r h) fun a bs F A H P Q R h p k => ⟨a, bs, rfl, h, p.1, fun m h1 h2 => by rw [minI_uniq p.1 h1 h2]; exact k _ _ _ _ _ p.2 R.go (.int _)⟩)
theorem cq_max (hc : X.calm = true) : CQ X T (.builtin "max") rMaxQ := cq_of (cr_max hc) (rel_lst (c := fun ns P A => 0 < ns.length ∧ P (.int (maxI ns)) A) (fun r h => ints_rep r h) fun a bs F A H P Q R h p k => ⟨a, bs, rfl, h, p.1, fun m h1 h2 => by rw [maxI_uniq p.1 h1 h2]; exact k _ _ _ _ _ p.2 R.go (.int _)⟩)
theorem cq_abs : CQ X T (.builtin "abs") rAbsQ := cq_of call_abs (by
  intro F A H xs xv P Q RR rx h k
  unfold rAbsQ at h
  split at h
  · rename_i i
    obtain ⟨v, rfl, rv⟩ := reps1 rx
    rw [rv.int_inv]
    exact ⟨i, rfl, k _ _ _ _ _ h RR.go (.int _)⟩
  · exact h.elim)
theorem cq_int : CQ X T (.type "int") rIntQ := cq_of call_int1 (by
  intro F A H xs xv P Q RR rx h k
  unfold rIntQ at h
  split at h
  · rename_i i
    obtain ⟨v, rfl, rv⟩ := reps1 rx
    rw [rv.int_inv]
    exact .inl ⟨i, rfl, k _ _ _ _ _ h RR.go (.int _)⟩
  · exact h.elim)

/-! ### list(x), tuple(x) -/
def keysD (kvs : List (Key × D)) : List D := kvs.map fun p => kD p.1
def rListQ (m : Bool) : RNQ := fun xs A P => match xs with
  | [d] => match seqD A d with
    | some ys => newL m ys A P
    | none => okQ (entD A d) fun kvs => newL m (kvs.map (·.1)) A P
  | _ => False
theorem RepK.keys {K : PySem.W.Frag} {F : Hp} : ∀ {ps : List (V × V)} {ds : List (D × D)}, RepK K F ps ds → Reps K F (ps.map (·.1)) (ds.map (·.1))
  | _, _, .nil => .nil
  | _, _, .cons a _ t => .cons a (RepK.keys t)
theorem RepK.vals {K : PySem.W.Frag} {F : Hp} : ∀ {ps : List (V × V)} {ds : List (D × D)}, RepK K F ps ds → Reps K F (ps.map (·.2)) (ds.map (·.2))
  | _, _, .nil => .nil
  | _, _, .cons _ a t => .cons a (RepK.vals t)
theorem paired_at {α β : Type} {F : α → β → Prop} : ∀ {xs : List α} {ys : List β}, Paired F xs ys → ∀ {i : Nat} {x : α} {y : β}, xs[i]? = some x → ys[i]? = some y → F x y
  | _, _, .nil, i, x, y, h, _ => by simp at h
  | _, _, .cons r _, 0, x, y, h, h2 => by simp at h h2; subst h h2; exact r
  | _, _, .cons _ t, i + 1, x, y, h, h2 => paired_at t (by simpa using h) (by simpa using h2)
theorem cq_list (m : Bool) (hc : X.calm = true) : CQ X T (.type "list") (rListQ m) := ⟨fun pins s σ H xs us Q I r h => by
  obtain ⟨F, A, ds, h1, R, P, h2, k⟩ := h
  unfold rListQ at h2
  split at h2
  · rename_i d
    obtain ⟨v, rfl, rv⟩ := reps1 h1
    split at h2
    · rename_i ys e
      obtain ⟨a, vs, rfl, h3, h4⟩ := seq_rep R rv e
      exact call_list_of pins s σ H _ us Q I r ⟨a, vs, rfl, h3, fun l hl => newL_ok R h2 h4 hl k⟩
    · cases e : entD A d with
      | none => rw [e] at h2; exact h2.elim
      | some kvs =>
        rw [e] at h2
        obtain ⟨a, ps, rfl, h3, h4⟩ := ent_rep I R rv e
        obtain ⟨u, rfl, ru⟩ := vals1 r
        obtain rfl : u = Value.ref a := ru
        obtain ⟨lo, hz, o, es, ep, e1, e2, e3, e4, e5⟩ := h3
        refine PySem.W.kdl_call (KdlSrc.rawDict (es := es) (ep := ep) lo) (I.ok.hd hc) ⟨o, e1, e2, e3⟩ (by rw [e4]; exact hz) fun h' tk acc' c' kp e it => ?_
        have rv2 : Vals (ps.map (·.1)) acc'.toList := by
          refine vals_of_at (by rw [List.length_map]; have q1 := it.1; have q2 : acc'.toList.length = acc'.size := by simp
                                omega) fun j x w g1 g2 => ?_
          obtain ⟨hj, hw⟩ := it.2 j w (by rw [← Array.getElem?_toList]; exact g2)
          rw [List.getElem?_map] at g1
          cases hp : ps[j]? with
          | none => rw [hp] at g1; cases g1
          | some p =>
            rw [hp] at g1
            cases g1
            rw [hw]
            exact (paired_at e5 hp (y := es[j]) (by rw [Array.getElem?_toList]; exact Array.getElem?_eq_getElem hj)).1
        have hzz : (ps.map (·.1)).length ≤ sizeLine := by rw [List.length_map]; exact hz
        have I2 : Inv X pins σ (upd H s.heap.objs.size (.lst (ps.map (·.1)))) { s with heap := h', toks := tk } := I.laid (t' := tk) kp (Nat.le_refl _) ⟨hzz, acc'.toList, c', rv2, by rw [Array.toArray_toList]; exact e⟩
        exact ⟨.ref s.heap.objs.size, _, I2, rfl, newL_ok R h2 h4.keys (I.hok.fresh (Nat.le_refl _)) k⟩
  · exact h2.elim⟩
def rTupQ : RNQ := fun xs A P => match xs with
  | [.tup ys] => P (.tup ys) A
  | [d] => okQ (lstD A d) fun ys => P (.tup ys) A
  | _ => False
theorem cq_tup : CQ X T (.type "tuple") rTupQ := ⟨fun pins s σ H xs us Q I r h => by
  obtain ⟨F, A, ds, h1, R, P, h2, k⟩ := h
  unfold rTupQ at h2
  split at h2
  · rename_i ys
    obtain ⟨v, rfl, rv⟩ := reps1 h1
    obtain ⟨u, rfl, ru⟩ := vals1 r
    refine rl_tuple pins s σ H _ u Q I ru ?_
    have rv0 := rv
    cases rv with
    | tup h3 h4 => exact .inr ⟨_, _, rfl, sqT_mono R.sub h3, k _ _ _ _ _ h2 R.go rv0⟩
  · rename_i d _
    obtain ⟨v, rfl, rv⟩ := reps1 h1
    cases e : lstD A d with
    | none => rw [e] at h2; exact h2.elim
    | some ys =>
      rw [e] at h2
      obtain ⟨a, vs, rfl, h3, h4⟩ := lst_rep R rv e
      obtain ⟨u, rfl, ru⟩ := vals1 r
      exact rl_tuple pins s σ H _ u Q I ru (.inl ⟨a, vs, rfl, h3, fun q hq => newT_ok R h2 h4 hq k⟩)
  · exact h2.elim⟩

/-! ### sorted -/
def leS (a b : Str) : Bool := !PySem.Spec.ltCps b.cps.toList a.cps.toList
def srtI (l : List Int) : List Int := l.mergeSort fun a b => decide (a ≤ b)
def srtS (l : List Str) : List Str := l.mergeSort leS
theorem srtI_uniq {l l' : List Int} (h : l'.Perm l) (h2 : l'.Pairwise (· ≤ ·)) : l' = srtI l := by
  refine List.Perm.eq_of_pairwise (le := (· ≤ ·)) (fun a b _ _ x y => Int.le_antisymm x y) h2 ?_ (h.trans (List.mergeSort_perm _ _).symm)
  have := List.pairwise_mergeSort (le := fun a b : Int => decide (a ≤ b)) (fun a b c x y => by simp at *; omega) (fun a b => by simp; omega) l
  exact this.imp fun h => by simpa using h
theorem leS_iff {a b : Str} : leS a b = true ↔ ¬ b.cps.toList < a.cps.toList := by
  unfold leS
  rw [PyProof.Rows.ltCps_eq]
  simp
theorem leS_trans (a b c : Str) (x : leS a b = true) (y : leS b c = true) : leS a c = true := by
  rw [leS_iff] at *
  exact fun z => by
    have h1 : a.cps.toList ≤ b.cps.toList := x
    have h2 : b.cps.toList ≤ c.cps.toList := y
    exact absurd z (List.not_lt.mpr (List.le_trans h1 h2))
theorem leS_total (a b : Str) : (leS a b || leS b a) = true := by
  rw [Bool.or_eq_true, leS_iff, leS_iff]
  have h : a.cps.toList ≤ b.cps.toList ∨ b.cps.toList ≤ a.cps.toList := List.le_total _ _
  exact h
theorem leS_anti {a b : Str} (x : leS a b = true) (y : leS b a = true) : a = b := by
  rw [leS_iff] at *
  have h : a.cps.toList = b.cps.toList := List.le_antisymm (show a.cps.toList ≤ b.cps.toList from x) (show b.cps.toList ≤ a.cps.toList from y)
  obtain ⟨⟨l⟩⟩ := a
  obtain ⟨⟨m⟩⟩ := b
  have h' : l = m := h
  rw [h']
theorem rising_pw : ∀ (p : Str) (l : List Str), PyProof.Rows.risingS p l = true → (p :: l).Pairwise (fun a b => leS a b = true)
  | p, [], _ => by simp
  | p, x :: r, h => by
    have h' : (!PySem.Spec.ltCps x.cps.toList p.cps.toList && PyProof.Rows.risingS x r) = true := h
    rw [Bool.and_eq_true] at h'
    have ih := rising_pw x r h'.2
    refine List.pairwise_cons.mpr ⟨fun y hy => ?_, ih⟩
    rcases List.mem_cons.mp hy with q | q
    · subst q; exact h'.1
    · exact leS_trans _ _ _ h'.1 ((List.pairwise_cons.mp ih).1 y q)
theorem srtS_uniq {l l' : List Str} (h : l'.Perm l) (h2 : PyProof.Rows.sortedS l' = true) : l' = srtS l := by
  refine List.Perm.eq_of_pairwise (le := fun a b => leS a b = true) (fun a b _ _ x y => leS_anti x y) ?_ ?_ (h.trans (List.mergeSort_perm _ _).symm)
  · cases l' with
    | nil => exact .nil
    | cons x r => exact rising_pw x r h2
  · exact List.pairwise_mergeSort leS_trans leS_total l
def keyInts : List (Key × D) → Option (List Int)
  | [] => some []
  | (.inl i, _) :: r => (keyInts r).map (i :: ·)
  | _ :: _ => none
def keyStrs : List (Key × D) → Option (List Str)
  | [] => some []
  | (.inr i, _) :: r => (keyStrs r).map (i :: ·)
  | _ :: _ => none
theorem keyInts_rep {K : PySem.W.Frag} {F : Hp} : ∀ {ds : List (Key × D)} {ps : List (Key × V)} {ns : List Int}, KvRep K F ps ds → keyInts ds = some ns → ps.map (·.1) = ns.map Sum.inl
  | [], _, ns, .nil, h => by simp only [keyInts, Option.some.injEq] at h; subst h; rfl
  | (.inl i, d) :: ds, _, ns, .cons r rr, h => by
    simp only [keyInts, Option.map_eq_some_iff] at h
    obtain ⟨ms, h1, rfl⟩ := h
    rw [List.map_cons, keyInts_rep rr h1] <;> rfl
  | (.inr i, d) :: ds, _, ns, .cons r rr, h => by simp [keyInts] at h
theorem keyStrs_rep {K : PySem.W.Frag} {F : Hp} : ∀ {ds : List (Key × D)} {ps : List (Key × V)} {ns : List Str}, KvRep K F ps ds → keyStrs ds = some ns → ps.map (·.1) = ns.map Sum.inr
  | [], _, ns, .nil, h => by simp only [keyStrs, Option.some.injEq] at h; subst h; rfl
  | (.inr i, d) :: ds, _, ns, .cons r rr, h => by
    simp only [keyStrs, Option.map_eq_some_iff] at h
    obtain ⟨ms, h1, rfl⟩ := h
    rw [List.map_cons, keyStrs_rep rr h1] <;> rfl
  | (.inl i, d) :: ds, _, ns, .cons r rr, h => by simp [keyStrs] at h
/-- sorted(x): a list of ints, of fewer than 64 texts; a dict with such keys -/
def rSortQ (m : Bool) : RNQ := fun xs A P => match xs with
  | [.dic kvs] => (∃ ns, keyInts kvs = some ns ∧ ns.length < 64 ∧ newL m ((srtI ns).map .int) A P) ∨ (∃ ns, keyStrs kvs = some ns ∧ ns.length < 64 ∧ newL m ((srtS ns).map .str) A P)
  | [d] => okQ (lstD A d) fun ys => (∃ ns, intsD ys = some ns ∧ newL m ((srtI ns).map .int) A P) ∨ (∃ ns, strsD ys = some ns ∧ ns.length < 64 ∧ newL m ((srtS ns).map .str) A P)
  | _ => False
theorem cq_sorted (m : Bool) (hc : X.calm = true) : CQ X T (.builtin "sorted") (rSortQ m) := ⟨fun pins s σ H xs us Q I r h => by
  obtain ⟨F, A, ds, h1, R, P, h2, k⟩ := h
  unfold rSortQ at h2
  split at h2
  · rename_i kvs
    obtain ⟨v, rfl, rv⟩ := reps1 h1
    cases rv with
    | dic h3 h4 =>
      rcases h2 with ⟨ns, e, hz, p⟩ | ⟨ns, e, hz, p⟩
      · refine call_sortedDI hc pins s σ H _ us Q I r ⟨_, _, ns, rfl, .inr ⟨_, R.sub _ _ h3⟩, keyInts_rep h4 e, hz, fun ys q hp hs hq => ?_⟩
        rw [srtI_uniq hp hs]
        exact newL_ok R p (reps_int _) hq k
      · refine call_sortedD hc pins s σ H _ us Q I r ⟨_, _, ns, rfl, .inr ⟨_, R.sub _ _ h3⟩, keyStrs_rep h4 e, hz, fun ys q hp hs hq => ?_⟩
        rw [srtS_uniq hp hs]
        exact newL_ok R p (reps_str _) hq k
  · rename_i d _
    obtain ⟨v, rfl, rv⟩ := reps1 h1
    cases e : lstD A d with
    | none => rw [e] at h2; exact h2.elim
    | some ys =>
      rw [e] at h2
      obtain ⟨a, vs, rfl, h3, h4⟩ := lst_rep R rv e
      rcases h2 with ⟨ns, e, p⟩ | ⟨ns, e, hz, p⟩
      · rw [ints_rep h4 e] at h3
        refine cr_sortedI pins s σ H _ us Q I r ⟨a, ns, rfl, h3, fun ys q hp hs hq => ?_⟩
        rw [srtI_uniq hp hs]
        exact newL_ok R p (reps_int _) hq k
      · rw [strs_rep h4 e] at h3
        refine cr_sortedS pins s σ H _ us Q I r ⟨a, ns, rfl, h3, hz, fun ys q hp hs hq => ?_⟩
        rw [srtS_uniq hp hs]
        exact newL_ok R p (reps_str _) hq k
  · exact h2.elim⟩

end
end Qd


set_option Elab.async false
set_option linter.all false
set_option maxRecDepth 100000
set_option maxHeartbeats 4000000
/-! Second layer, part F: dicts over data. -/
namespace Qd
open PySem L2

/-! ### tables of pairs -/
section
variable {κ : Type} [DecidableEq κ] {α : Type}
def getA (kvs : List (κ × α)) (k : κ) : Option α := (kvs.find? fun kv => decide (kv.1 = k)).map (·.2)
def hasA (kvs : List (κ × α)) (k : κ) : Bool := kvs.any fun kv => decide (kv.1 = k)
def putA (kvs : List (κ × α)) (k : κ) (v : α) : List (κ × α) := if hasA kvs k = true then kvs.map (fun kv => if kv.1 = k then (kv.1, v) else kv) else kvs ++ [(k, v)]
def mergeA (kvs more : List (κ × α)) : List (κ × α) := more.foldl (fun acc kv => putA acc kv.1 kv.2) kvs
theorem hasA_get (kvs : List (κ × α)) (k : κ) : (getA kvs k).isSome = hasA kvs k := by
  unfold getA hasA
  rw [Option.isSome_map]
  induction kvs with
  | nil => rfl
  | cons a r ih =>
    rw [List.find?_cons, List.any_cons]
    cases decide (a.1 = k) <;> simp [ih]
end
/-- keys alike, values related -/
inductive RepA {κ : Type} (K : PySem.W.Frag) (F : Hp) : List (κ × V) → List (κ × D) → Prop
  | nil : RepA K F [] []
  | cons {n : κ} {v : V} {d : D} {ps : List (κ × V)} {ds : List (κ × D)} : Rep K F v d → RepA K F ps ds → RepA K F ((n, v) :: ps) ((n, d) :: ds)
theorem KvRep.a {K : PySem.W.Frag} {F : Hp} : ∀ {ps : List (Key × V)} {ds : List (Key × D)}, KvRep K F ps ds → RepA K F ps ds
  | _, _, .nil => .nil
  | _, _, .cons r t => .cons r (KvRep.a t)
theorem RepA.kv {K : PySem.W.Frag} {F : Hp} : ∀ {ps : List (Key × V)} {ds : List (Key × D)}, RepA K F ps ds → KvRep K F ps ds
  | _, _, .nil => .nil
  | _, _, .cons r t => .cons r (RepA.kv t)
theorem KtRep.a {K : PySem.W.Frag} {F : Hp} : ∀ {ps : List (List Key × V)} {ds : List (List Key × D)}, KtRep K F ps ds → RepA K F ps ds
  | _, _, .nil => .nil
  | _, _, .cons r t => .cons r (KtRep.a t)
theorem RepA.kt {K : PySem.W.Frag} {F : Hp} : ∀ {ps : List (List Key × V)} {ds : List (List Key × D)}, RepA K F ps ds → KtRep K F ps ds
  | _, _, .nil => .nil
  | _, _, .cons r t => .cons r (RepA.kt t)
section
variable {κ : Type} [DecidableEq κ] {K : PySem.W.Frag} {F : Hp}
theorem RepA.len : ∀ {ps : List (κ × V)} {ds : List (κ × D)}, RepA K F ps ds → ps.length = ds.length
  | _, _, .nil => rfl
  | _, _, .cons _ t => by rw [List.length_cons, List.length_cons, RepA.len t]
theorem RepA.any {k : κ} : ∀ {ps : List (κ × V)} {ds : List (κ × D)}, RepA K F ps ds → hasA ps k = hasA ds k
  | _, _, .nil => rfl
  | _, _, .cons _ t => by
    have ih := RepA.any (k := k) t
    unfold hasA at *
    rw [List.any_cons, List.any_cons, ih]
theorem RepA.app {ps qs : List (κ × V)} {ds es : List (κ × D)} (h : RepA K F ps ds) (g : RepA K F qs es) : RepA K F (ps ++ qs) (ds ++ es) := by
  induction h with
  | nil => exact g
  | cons r _ ih => exact .cons r ih
theorem RepA.put {k : κ} {v : V} {d : D} (r : Rep K F v d) {ps : List (κ × V)} {ds : List (κ × D)} (h : RepA K F ps ds) : RepA K F (putK ps k v) (putA ds k d) := by
  have e : (ps.any fun kv => decide (kv.1 = k)) = hasA ds k := h.any
  unfold putK putA
  rw [e]
  split
  · clear e
    induction h with
    | nil => exact .nil
    | @cons n w c ps ds q t ih =>
      have e2 : hasA ((n, c) :: ds) k = true := by assumption
      rw [List.map_cons, List.map_cons]
      have go : ∀ {ps : List (κ × V)} {ds : List (κ × D)}, RepA K F ps ds → RepA K F (ps.map fun kv => if kv.1 = k then (kv.1, v) else kv) (ds.map fun kv => if kv.1 = k then (kv.1, d) else kv) := by
        intro ps ds h
        induction h with
        | nil => exact .nil
        | @cons n w c ps ds q t ih =>
          rw [List.map_cons, List.map_cons]
          by_cases hn : n = k
          · simp only [hn, if_true]; exact .cons r ih
          · simp only [hn, if_false]; exact .cons q ih
      exact go (.cons q t)
  · exact h.app (.cons r .nil)
theorem RepA.get {k : κ} {d : D} : ∀ {ps : List (κ × V)} {ds : List (κ × D)}, RepA K F ps ds → getA ds k = some d → ∃ v, valV ps k = some v ∧ Rep K F v d
  | _, _, .nil, h => by simp [getA] at h
  | _, _, @RepA.cons _ _ _ n w c ps ds q t, h => by
    by_cases hn : n = k
    · have e : getA ((n, c) :: ds) k = some c := by simp [getA, hn]
      rw [e] at h; cases h
      exact ⟨w, valV_pos (p := (n, w)) hn, q⟩
    · have e : getA ((n, c) :: ds) k = getA ds k := by simp [getA, List.find?_cons, hn]
      rw [e] at h
      obtain ⟨v, h1, h2⟩ := RepA.get t h
      exact ⟨v, (valV_neg (p := (n, w)) hn).trans h1, h2⟩
theorem RepA.has {k : κ} : ∀ {ps : List (κ × V)} {ds : List (κ × D)}, RepA K F ps ds → (valV ps k).isSome = hasA ds k
  | _, _, .nil => rfl
  | _, _, @RepA.cons _ _ _ n w c ps ds q t => by
    by_cases hn : n = k
    · rw [valV_pos (p := (n, w)) hn]; simp [hasA, hn]
    · rw [valV_neg (p := (n, w)) hn, RepA.has t]; simp [hasA, hn]
theorem RepA.merge {more : List (κ × V)} {mores : List (κ × D)} (g : RepA K F more mores) : ∀ {ps : List (κ × V)} {ds : List (κ × D)}, RepA K F ps ds → RepA K F (more.foldl (fun acc kv => putK acc kv.1 kv.2) ps) (mergeA ds mores) := by
  induction g with
  | nil => exact fun h => h
  | cons r t ih => exact fun h => ih (h.put r)
end

/-! ### keys -/
def keyD : D → Option Key
  | .int i => some (.inl i)
  | .str x => some (.inr x)
  | _ => none
theorem keyD_rep {K : PySem.W.Frag} {F : Hp} {v : V} {d : D} {k : Key} (r : Rep K F v d) (h : keyD d = some k) : v = kV k := by
  cases r with
  | int i => simp only [keyD, Option.some.injEq] at h; subst h; rfl
  | str i => simp only [keyD, Option.some.injEq] at h; subst h; rfl
  | _ => simp [keyD] at h
def dicD (A : MH) : D → Option (List (Key × D))
  | .dic kvs => some kvs
  | .mut a => match A a with | some (.dic kvs) => some kvs | _ => none
  | _ => none
theorem dic_rep {K : PySem.W.Frag} {T : Tz} {F H : Hp} {A : MH} {v : V} {d : D} {kvs : List (Key × D)} (R : RS K T F A H) (r : Rep K F v d) (h : dicD A d = some kvs) : ∃ a ps, v = .ref a ∧ Rd H a (.dK ps) ∧ RepA K F ps kvs := by
  cases r with
  | dic h1 h2 => simp only [dicD, Option.some.injEq] at h; subst h; exact ⟨_, _, rfl, .inr ⟨_, R.sub _ _ h1⟩, h2.a⟩
  | «mut» a =>
    simp only [dicD] at h
    split at h
    · rename_i xs e
      simp only [Option.some.injEq] at h; subst h
      obtain ⟨vs, h1, h2⟩ := (R.mem a _ e).2
      exact ⟨_, _, rfl, .inl h1, h2.a⟩
    · cases h
  | _ => simp [dicD] at h
section
variable {X : Cx} {T : Tz} {e a b c o i : Expr} {es : List Expr} {te ta tb tc td ty : TQ} {t : TAQ} {pos : Pos} {r : RNQ}
/-- d[k] -/
def qDGet : R2Q := fun x y A P => okQ (dicD A x) fun kvs => okQ (keyD y) fun k => okQ (getA kvs k) fun d => P d A
theorem pq_dget (hu : X.A.units + 1 < cLine) (ho : PQ X T o td) (hi : PQ X T i ty) (hs : NoSl i) : PQ X T (.Subscript o i pos) (qOp qDGet td ty) := ⟨(pe_dget hu ho.pe hi.pe hs).wk fun σ H Q h => by
  obtain ⟨F, A, s, hs, hR, P, ht, k⟩ := h
  refine ⟨F, A, s, hs, hR, _, ht, fun x A1 xv H1 F1 p1 g1 r1 => ?_⟩
  refine ⟨F1, A1, s, hs.mono g1.ext, g1.rs, _, p1, fun y A2 yv H2 F2 p2 g2 r2 => ?_⟩
  unfold qDGet at p2
  cases e1 : dicD A2 x with
  | none => rw [e1] at p2; exact p2.elim
  | some kvs =>
    rw [e1] at p2
    cases e2 : keyD y with
    | none => rw [e2] at p2; exact p2.elim
    | some kk =>
      rw [e2] at p2
      simp only [okQ_some] at p2
      cases e3 : getA kvs kk with
      | none => rw [e3] at p2; exact p2.elim
      | some d =>
        rw [e3] at p2
        obtain ⟨a, ps, rfl, h3, h4⟩ := dic_rep g2.rs (r1.mono g2.ext) e1
        obtain ⟨v, h5, h6⟩ := h4.get e3
        exact ⟨a, v, rfl, .inl ⟨ps, kk, h3, keyD_rep r2 e2, h5.symm⟩, k _ _ _ _ _ p2 (g1.trans g2) h6⟩⟩
/-- k in d -/
def qDIn (ty td : TQ) : TQ := fun s A P => ty s A fun y A1 => td s A1 fun x A2 => okQ (dicD A2 x) fun kvs => okQ (keyD y) fun k => P (.bl (hasA kvs k)) A2
theorem lift_din {K : PySem.W.Frag} {σ : St} {H : Hp} {Q : VK} (h : lift K T (qDIn ty td) σ H Q) : tDIn (lift K T ty) (lift K T td) σ H Q := by
  obtain ⟨F, A, s, hs, hR, P, ht, k⟩ := h
  refine ⟨F, A, s, hs, hR, _, ht, fun y A1 yv H1 F1 p1 g1 r1 => ?_⟩
  refine ⟨F1, A1, s, hs.mono g1.ext, g1.rs, _, p1, fun x A2 xv H2 F2 p2 g2 r2 => ?_⟩
  cases e1 : dicD A2 x with
  | none => rw [e1] at p2; exact p2.elim
  | some kvs =>
    rw [e1] at p2
    cases e2 : keyD y with
    | none => rw [e2] at p2; exact p2.elim
    | some kk =>
      rw [e2] at p2
      obtain ⟨a, ps, rfl, h3, h4⟩ := dic_rep g2.rs r2 e1
      refine ⟨a, _, rfl, .inl ⟨ps, kk, h3, keyD_rep (r1.mono g2.ext) e2, rfl⟩, ?_⟩
      rw [h4.has]
      exact k _ _ _ _ _ p2 (g1.trans g2) (.bl _)

/-! ### d.items(), dict(x) -/
/-- a new dict: it may change, or is frozen -/
def newD (m : Bool) (kvs : List (Key × D)) (A : MH) (P : KQ) : Prop := if m = true then ∀ a, A a = none → P (.mut a) (A.set a (.dic kvs)) else P (.dic kvs) A
theorem newDm_ok {K : PySem.W.Frag} {kvs : List (Key × D)} {A : MH} {P : KQ} {F : Hp} {H : Hp} {ps : List (Key × V)} {p : Addr} {Q : VK} (R : RS K T F A H) (h : newD true kvs A P) (r : RepA K F ps kvs) (hp : H p = none)
    (k : ∀ d A' v H' F', P d A' → Go K T F A H F' A' H' → Rep K F' v d → Q v H') : Q (.ref p) (upd H p (.dK ps)) := by
  unfold newD at h
  rw [if_pos rfl] at h
  exact k _ _ _ _ F (h p (R.free hp).2) (R.goM hp ⟨ps, upd_same, r.kv⟩) (.mut p)
/-- a dict that may change, frozen from here on -/
def qFzD (t : TQ) : TQ := fun s A P => t s A fun d A1 => match d with
  | .mut a => match A1 a with
    | some (.dic kvs) => P (.dic kvs) (A1.del a)
    | _ => False
  | _ => False
theorem pq_fzD (h : PQ X T e te) : PQ X T e (qFzD te) := ⟨h.pe.ghost fun pins σ H Q h => by
  obtain ⟨F, A, s, hs, hR, P, ht, k⟩ := h
  refine ⟨F, A, s, hs, hR, _, ht, fun d A1 v H1 F1 p1 g1 r1 s1 I1 => ?_⟩
  split at p1
  · rename_i a
    split at p1
    · rename_i kvs hA
      cases r1
      obtain ⟨ps, hH, rv⟩ := (g1.rs.mem a _ hA).2
      obtain ⟨od, I2⟩ := I1.lock hH trivial
      have g2 := g1.rs.goFzD od hA hH
      exact ⟨_, I2, k _ _ _ _ _ p1 (g1.trans g2) (.dic upd_same (rv.mono g2.ext))⟩
    · exact p1.elim
  · exact p1.elim⟩
/-- the reading where the dict is frozen at once -/
theorem qFzD_new {m : TQ} {kvs : List (Key × D)} {s : SQ} {A : MH} {P : KQ} : newD false kvs A P → newD true kvs A (fun d A1 => match d with
  | .mut a => match A1 a with
    | some (.dic kvs) => P (.dic kvs) (A1.del a)
    | _ => False
  | _ => False) := by
  intro h
  unfold newD at *
  rw [if_neg Bool.false_ne_true] at h
  rw [if_pos rfl]
  intro a ha
  simp only [MH.set_same, MH.del_set ha]
  exact h
end
/-- pairs (key, value) -/
def pairD : D → Option (Key × D)
  | .tup [k, v] => (keyD k).map fun k => (k, v)
  | _ => none
def pairsD : List D → Option (List (Key × D))
  | [] => some []
  | d :: r => match pairD d, pairsD r with | some p, some ps => some (p :: ps) | _, _ => none
theorem pairs_rep {K : PySem.W.Frag} {F H : Hp} (e : Same F H) : ∀ {ds : List D} {vs : List V} {kvs : List (Key × D)}, Reps K F vs ds → pairsD ds = some kvs →
    ∃ (ps : List Addr) (ws : List (Key × V)), vs = ps.map V.ref ∧ Paired (fun p (kv : Key × V) => SqT K H p [kV kv.1, kv.2]) ps ws ∧ RepA K F ws kvs
  | [], _, kvs, .nil, h => by simp only [pairsD, Option.some.injEq] at h; subst h; exact ⟨[], [], rfl, .nil, .nil⟩
  | d :: ds, _, kvs, .cons r rr, h => by
    simp only [pairsD] at h
    split at h
    · rename_i p qs h1 h2
      simp only [Option.some.injEq] at h; subst h
      obtain ⟨ps, ws, rfl, h4, h5⟩ := pairs_rep e rr h2
      unfold pairD at h1
      split at h1
      · rename_i k v
        simp only [Option.map_eq_some_iff] at h1
        obtain ⟨kk, h6, rfl⟩ := h1
        cases r with
        | @tup a vs _ hs rs =>
          obtain ⟨v1, v2, rfl, r1, r2⟩ := reps2 rs
          refine ⟨a :: ps, (kk, v2) :: ws, rfl, .cons ?_ h4, .cons r2 h5⟩
          rw [keyD_rep r1 h6] at hs
          exact sqT_mono e hs
      · cases h1
    · cases h
/-- dict(a list of pairs), dict(a dict): a new one that may change -/
def rDictQ : RNQ := fun xs A P => match xs with
  | [d] => match dicD A d with
    | some kvs => newD true kvs A P
    | none => okQ ((lstD A d).bind pairsD) fun kvs => newD true (mergeA [] kvs) A P
  | _ => False
section
variable {X : Cx} {T : Tz}
theorem cq_dict (hc : X.calm = true) : CQ X T (.type "dict") rDictQ := ⟨fun pins s σ H xs us Q I r h => by
  obtain ⟨F, A, ds, h1, R, P, h2, k⟩ := h
  unfold rDictQ at h2
  split at h2
  · rename_i d
    obtain ⟨v, rfl, rv⟩ := reps1 h1
    split at h2
    · rename_i kvs e
      obtain ⟨a, ps, rfl, h3, h4⟩ := dic_rep R rv e
      exact call_dictD pins s σ H _ us Q I r ⟨a, ps, rfl, h3, fun p hp => newDm_ok R h2 h4 hp k⟩
    · cases e : lstD A d with
      | none => rw [e] at h2; exact h2.elim
      | some ys =>
        rw [e, Option.bind_some] at h2
        cases e2 : pairsD ys with
        | none => rw [e2] at h2; exact h2.elim
        | some kvs =>
          rw [e2] at h2
          obtain ⟨a, vs, rfl, h3, h4⟩ := lst_rep R rv e
          obtain ⟨ps, ws, rfl, h5, h6⟩ := pairs_rep R.sub h4 e2
          exact call_dictP hc pins s σ H _ us Q I r ⟨a, ps, ws, rfl, h3, h5, fun p hp => newDm_ok R h2 (h6.merge .nil) hp k⟩
  · exact h2.elim⟩
end
end Qd


set_option Elab.async false
set_option linter.all false
set_option maxRecDepth 100000
set_option maxHeartbeats 4000000
/-! Second layer, part G: what is walked; methods; targets. -/
namespace Qd
open PySem L2

/-! ### what is walked -/
section
variable {K : PySem.W.Frag} {T : Tz}
theorem Src.list {a : Addr} {vs : List V} {ds : List D} {F0 : Hp} (h : SqL K F0 a vs) (r : Reps K F0 vs ds) : Src K T (Itl K a) F0 ds :=
  ⟨fun i F A H hi R e => by
    have hs := (e.trans R.sub).seq h
    obtain ⟨v, h1, _⟩ := r.get (i := i) (List.getElem?_eq_getElem hi)
    exact ⟨vs, v, hs, h1⟩,
  fun i F A H hi R e => ⟨vs, (e.trans R.sub).seq h, by rw [r.length]; exact hi⟩,
  fun i F A H x H' hl y R e => by
    obtain ⟨rfl, y2⟩ := y
    have hx := y2 vs ((e.trans R.sub).seq h)
    obtain ⟨d, h1, h2⟩ := r.getV hx
    exact ⟨d, F, h1, R.go, h2.mono e⟩⟩
theorem Src.tup {a : Addr} {vs : List V} {ds : List D} {F0 : Hp} (h : SqT K F0 a vs) (r : Reps K F0 vs ds) : Src K T (Itt K a) F0 ds :=
  ⟨fun i F A H hi R e => by
    have hs := sqT_mono (e.trans R.sub) h
    obtain ⟨v, h1, _⟩ := r.get (i := i) (List.getElem?_eq_getElem hi)
    exact ⟨vs, v, hs, h1⟩,
  fun i F A H hi R e => ⟨vs, sqT_mono (e.trans R.sub) h, by rw [r.length]; exact hi⟩,
  fun i F A H x H' hl y R e => by
    obtain ⟨rfl, y2⟩ := y
    have hx := y2 vs (sqT_mono (e.trans R.sub) h)
    obtain ⟨d, h1, h2⟩ := r.getV hx
    exact ⟨d, F, h1, R.go, h2.mono e⟩⟩
def rngD (lo : Int) (n : Nat) : List D := (List.range n).map fun i => .int (lo + (i : Nat))
theorem Src.rng {lo : Int} {n : Nat} {F0 : Hp} : Src K T (Itr lo n) F0 (rngD lo n) :=
  ⟨fun i F A H hi R e => by show i < n; simpa [rngD] using hi, fun i F A H hi R e => by show n ≤ i; simpa [rngD] using hi,
  fun i F A H x H' hl y R e => by
    obtain ⟨rfl, rfl⟩ := y
    have hi : i < n := by simpa [rngD] using hl
    exact ⟨.int (lo + i), F, by simp [rngD, hi], R.go, .int _⟩⟩
def sgnD (x : Str) : List D := x.cps.toList.map fun c => .str ⟨#[c]⟩
theorem Src.str {x : Str} {F0 : Hp} : Src K T (Its x) F0 (sgnD x) :=
  ⟨fun i F A H hi R e => by show i < x.cps.size; simpa [sgnD] using hi, fun i F A H hi R e => by show x.cps.size ≤ i; simpa [sgnD] using hi,
  fun i F A H v H' hl y R e => by
    obtain ⟨rfl, c, hc, rfl⟩ := y
    refine ⟨.str ⟨#[c]⟩, F, ?_, R.go, .str _⟩
    simp [sgnD, hc]⟩
theorem Src.keys {a : Addr} {o : Obj} {ps : List (Key × V)} {kvs : List (Key × D)} {F0 : Hp} (h : F0 a = some (.frz o (.dK ps))) (r : KvRep K F0 ps kvs) : Src K T (Itk a o ps) F0 (keysD kvs) := by
  have hl : ps.length = kvs.length := r.a.len
  refine ⟨fun i F A H hi R e => ⟨R.sub _ _ (e _ _ h), by rw [hl]; simpa [keysD] using hi⟩, fun i F A H hi R e => ⟨R.sub _ _ (e _ _ h), by rw [hl]; simpa [keysD] using hi⟩, fun i F A H x H' hl y R e => ?_⟩
  obtain ⟨rfl, k, v, h1, rfl⟩ := y
  have hk := KvRep.k r
  obtain ⟨d, h2, h3⟩ := hk.keys.getV (i := i) (v := kV k) (by rw [List.map_map, List.getElem?_map, h1] <;> rfl)
  exact ⟨d, F, by rw [List.map_map] at h2; exact h2, R.go, h3.mono e⟩
end
section
variable {X : Cx} {T : Tz} {tg e a b : Expr} {te ta tb : TQ} {t : TAQ} {pos p : Pos}
/-- the items of a datum, walked -/
def itD : D → Option (List D)
  | .lst xs => some xs | .frl xs => some xs | .tup xs => some xs
  | .str x => some (sgnD x)
  | .dic kvs => some (keysD kvs)
  | _ => none
def qIt (te : TQ) : TAQ := fun s A P => te s A fun d A1 => okQ (itD d) fun xs => P xs A1
theorem lift_one {K : PySem.W.Frag} {ta : TQ} {σ : St} {H : Hp} {R : It → Hp → Prop} {u : TAQ} (h : liftI K T u σ H R) (hu : ∀ s A P, u s A P → ∃ K : D → MH → Prop, ta s A K ∧ ∀ d A1, K d A1 → ∃ ds, P ds A1 ∧ itD d = some ds) : lift K T ta σ H fun v H1 => ∃ F A ds d, RS K T F A H1 ∧ Rep K F v d ∧ itD d = some ds ∧ ∀ J, Src K T J F ds → R J H1 := by
  obtain ⟨F, A, s, hs, hR, P, ht, k⟩ := h
  obtain ⟨Kk, h1, h2⟩ := hu s A P ht
  refine ⟨F, A, s, hs, hR, Kk, h1, fun d A1 v H1 F1 p1 g1 r1 => ?_⟩
  obtain ⟨ds, h3, h4⟩ := h2 d A1 p1
  exact ⟨F1, A1, ds, d, g1.rs, r1, h4, fun J hJ => k _ _ _ _ _ h3 g1 hJ⟩
theorem walk_it {pins : List (Addr × Obj)} {σ : St} {H F : Hp} {A : MH} {s : Shared} {R : It → Hp → Prop} {v : V} {u : Value} {d : D} {ds : List D} (I : Inv X pins σ H s) (RR : RS X.K T F A H) (rv : Rep X.K F v d) (ru : RelV v u) (hd : itD d = some ds) (hR : ∀ J, Src X.K T J F ds → R J H) :
    wpAny (model X.prog X.w) X.A (pyIter u) (PIE X pins σ tg R) X.xe s := by
  have viaL : ∀ {a : Addr} {vs : List V}, u = .ref a → SqL X.K F a vs → Reps X.K F vs ds → wpAny (model X.prog X.w) X.A (pyIter u) (PIE X pins σ tg R) X.xe s := fun {a vs} e h1 h2 => by
    subst e
    obtain ⟨its, _, pl, _⟩ := I.list (RR.sub.seq h1)
    refine wpAny_pyIter_list pl.isList (pi_one (tk := s.toks) I _ (turn_list a _) ⟨_, Heap.get?_push_size _ rfl, rfl, rfl⟩ (hR _ (Src.list h1 h2)))
  cases rv with
  | lst h1 h2 =>
    simp only [itD, Option.some.injEq] at hd; subst hd
    exact viaL (show u = Value.ref _ from ru) (.of h1) h2
  | frl h1 h2 =>
    simp only [itD, Option.some.injEq] at hd; subst hd
    exact viaL (show u = Value.ref _ from ru) h1 h2
  | @tup a vs _ h1 h2 =>
    simp only [itD, Option.some.injEq] at hd; subst hd
    obtain rfl : u = Value.ref a := ru
    obtain ⟨its, _, pl, _⟩ := I.tuple (sqT_mono RR.sub h1)
    exact wpAny_pyIter_tuple (show s.heap.IsTuple a its.toArray from pl) (pi_one (tk := s.toks) I _ (turn_tuple a _) ⟨_, Heap.get?_push_size _ rfl, rfl, rfl⟩ (hR _ (Src.tup h1 h2)))
  | str x =>
    simp only [itD, Option.some.injEq] at hd; subst hd
    obtain ⟨t, rfl⟩ := ru
    cases ha : x.cps.all (· < 128)
    · exact wpAny_pyIter_wide ha (pi_one (tk := s.toks) I _ (turn_str _ x t "str_iterator" (.inr rfl)) ⟨_, Heap.get?_push_size _ rfl, rfl, rfl⟩ (hR _ Src.str))
    · exact wpAny_pyIter_ascii ha (pi_one (tk := s.toks) I _ (turn_str _ x t "str_ascii_iterator" (.inl rfl)) ⟨_, Heap.get?_push_size _ rfl, rfl, rfl⟩ (hR _ Src.str))
  | @dic a o ps _ h1 h2 =>
    simp only [itD, Option.some.injEq] at hd; subst hd
    obtain rfl : u = Value.ref a := ru
    obtain ⟨hs, hgd, hx, es, ep, vs, hdt, hsz, kv, hm⟩ := I.frzK (RR.sub _ _ h1)
    refine iter_keys hs hgd hx hdt (pi_one (tk := s.toks) I _ (turn_keys _ hdt) ⟨_, Heap.get?_push_size _ rfl, rfl, ?_⟩ (hR _ (Src.keys h1 h2)))
    rw [hsz] <;> rfl
  | _ => simp [itD] at hd
theorem piq_it (he : PQ X T e te) : PIQ X T tg e (qIt te) := ⟨⟨fun pins s σ H R I h => by
  have h' := lift_one (ta := te) h fun s A P ht => ⟨_, ht, fun d A1 p1 => by
    cases e1 : itD d with
    | none => rw [e1] at p1; exact p1.elim
    | some ds => rw [e1] at p1; exact ⟨ds, p1, rfl⟩⟩
  refine thn (he.pe.run pins s σ H _ I h') fun u s1 ⟨v, H1, I1, ru, F, A, ds, d, RR, rv, hd, hR⟩ => ?_
  exact walk_it I1 RR rv ru hd hR⟩⟩
end
end Qd


set_option Elab.async false
set_option linter.all false
set_option maxRecDepth 100000
set_option maxHeartbeats 4000000
/-! Second layer, part H: list(zip(..)), list(d.items()): lists of new pairs. -/
namespace Qd
open PySem L2 PyProof.Rows

namespace Grow
section
variable {prog : Program} {w : World}
/-- the iterator at I feeds the list at D: W i vs h, after i items, vs told -/
structure Feed (prog : Program) (w : World) (A : Around) (I D : Addr) (n : Nat) (W : Nat → List Value → Heap → Prop) (Z : List Value → Heap → Prop) : Prop where
  stay : ∀ i vs h h', W i vs h → (∀ b o, b ≠ D → h.get? b = some o → h'.get? b = some o) → h.objs.size ≤ h'.objs.size → W i vs h'
  item : ∀ (s : Shared) (i : Nat) (vs : List Value) (o : Obj) (Q : Option Value → Shared → Prop) (E : Value → Shared → Prop), i < n → W i vs s.heap → s.heap.get? D = some o →
    (∀ v h' tk, W (i + 1) (vs ++ [v]) h' → h'.get? D = some o → Q (some v) { s with heap := h', toks := tk }) → wpAny (model prog w) A (pyNext (.ref I)) Q E s
  done : ∀ (s : Shared) (vs : List Value) (o : Obj) (Q : Option Value → Shared → Prop) (E : Value → Shared → Prop), W n vs s.heap → s.heap.get? D = some o →
    (∀ h' tk, Z vs h' → h'.get? D = some o → Q none { s with heap := h', toks := tk }) → wpAny (model prog w) A (pyNext (.ref I)) Q E s
abbrev lstO (vs : List Value) (c : Nat) : Obj := { cls := .type "list", dict := none, data := .seq vs.toArray c, slots := #[] }
variable {A : Around} {s : Shared} {I D : Addr} {n : Nat} {W : Nat → List Value → Heap → Prop} {Z : List Value → Heap → Prop} {R : Result → Shared → Prop}
theorem runs (F : Feed prog w A.in1 I D n W Z) (hn : n ≤ sizeLine) (res : Value) (hR : ∀ h' tk vs c, Z vs h' → vs.length = n → h'.get? D = some (lstO vs c) → R (.ok (.ret res)) { s with heap := h', toks := tk }) :
    ∀ (k : Nat) {i : Nat} {vs : List Value} {h : Heap} {tk c : Nat}, i + k = n → vs.length = i → W i vs h → h.get? D = some (lstO vs c) →
      codeAny (model prog w) A (.builtin "list.extend.loop" ⟨[.ref D, .ref I, res], []⟩) R { s with heap := h, toks := tk }
  | 0, i, vs, h, tk, c, hk, hl, hw, hd => by
    obtain rfl : i = n := hk
    refine codeAny_builtin PySem.F.entry_extend_loop ?_
    rw [Around.under_plainId PySem.F.plain_extend_loop _]
    exact wpAny_bind (F.done { s with heap := h, toks := tk } vs _ _ _ hw hd fun h' tk' hw' hd' => wpAny_pure (hR h' tk' vs c hw' hl hd'))
  | k + 1, i, vs, h, tk, c, hk, hl, hw, hd => by
    refine codeAny_builtin PySem.F.entry_extend_loop ?_
    rw [Around.under_plainId PySem.F.plain_extend_loop _]
    refine wpAny_bind (F.item { s with heap := h, toks := tk } i vs _ _ _ (by omega) hw hd fun v h' tk' hw' hd' => ?_)
    show wpAny _ A.in1 (updateSeq D (·.push v) >>= _) _ _ _
    have hsz : vs.toArray.size = i := by simp [hl]
    have new : (h'.update D (Obj.mapSeq (·.push v))).get? D = some (lstO (vs ++ [v]) (c)) ∨ ∃ c', (h'.update D (Obj.mapSeq (·.push v))).get? D = some (lstO (vs ++ [v]) c') := .inr ⟨_, by
      have := Heap.get?_update_self (Obj.mapSeq (·.push v)) hd' rfl
      rw [this]
      simp [Obj.mapSeq, lstO] <;> rfl⟩
    obtain ⟨c', new⟩ : ∃ c', (h'.update D (Obj.mapSeq (·.push v))).get? D = some (lstO (vs ++ [v]) c') := new.elim (fun z => ⟨_, z⟩) id
    refine wpAny_bind (wpAny_updateSeq hd' rfl (wpAny_pure ⟨plainId_quiet PySem.F.plain_extend_loop _, ?_⟩) (by rw [hsz]; omega) (by show (vs.toArray.push v).size ≤ sizeLine + 1; rw [Array.size_push, hsz]; omega))
    refine runs F hn res hR k (by omega) (by simp [hl]) (F.stay _ _ h' _ hw' (fun b o hb e => (Heap.get?_update_other _ _ (Ne.symm hb)).trans e) ?_) new
    rw [Heap.size_update]
    exact Nat.le_refl _
/-- what is handed to list(..): at r, of type T; the walking's own state is W -/
structure Given (prog : Program) (w : World) (T : String) (r I D : Addr) (n : Nat) (W : Nat → List Value → Heap → Prop) (Z : List Value → Heap → Prop) (h0 : Heap) : Prop where
  notL : (Value.type T == Value.type "list") = false
  notT : (Value.type T == Value.type "tuple") = false
  ne : D ≠ r
  type : ∀ s : Shared, (∀ b o, h0.get? b = some o → s.heap.get? b = some o) → s.TypeIs (.ref r) T
  hint : ∀ (A : Around) (E : Value → Shared → Prop) (s : Shared) (Q : Bool → Shared → Prop), (∀ b o, h0.get? b = some o → s.heap.get? b = some o) → (∀ b, Q b s) → wpAny (model prog w) A (Builtin.List.listLengthHint (.ref r)) Q E s
  iter : ∀ (A : Around) (E : Value → Shared → Prop) (s : Shared) (o : Obj) (Q : Value → Shared → Prop), (∀ b o, h0.get? b = some o → s.heap.get? b = some o) → s.heap.objs.size = D + 1 → s.heap.get? D = some o →
    (∀ h', W 0 [] h' → h'.get? D = some o → (∀ b o, h0.get? b = some o → h'.get? b = some o) → Q (.ref I) { s with heap := h' }) → wpAny (model prog w) A (pyIter (.ref r)) Q E s
  feed : ∀ A : Around, A.handled = none → Feed prog w A I D n W Z
theorem extnd {T : String} {r : Addr} {h0 : Heap} (G : Given prog w T r I D n W Z h0) (hh : A.handled = none) (hn : n ≤ sizeLine) (hD : s.heap.objs.size = D + 1) (k0 : ∀ b o, h0.get? b = some o → s.heap.get? b = some o) (n0 : h0.get? D = none) (res : Value) (c : Nat) (hS : s.heap.get? D = some (lstO [] c))
    (hR : ∀ h' tk vs c, Z vs h' → vs.length = n → h'.get? D = some (lstO vs c) → R (.ok (.ret res)) { s with heap := h', toks := tk }) :
    wpAny (model prog w) A.in1 (Builtin.List.listExtendWith (.ref D) (.ref r) res)
      (fun fin s' => match fin with | .done f => R (.ok f) s' | .again c' => c'.quiet = true ∧ codeAny (model prog w) A c' R s') (fun e s' => R (.error e) s') s := by
  have F := G.feed A.in1 hh
  have go : ∀ (h : Heap) (tk c1 : Nat), W 0 [] h → h.get? D = some (lstO [] c1) → codeAny (model prog w) A (.builtin "list.extend.loop" ⟨[.ref D, .ref I, res], []⟩) R { s with heap := h, toks := tk } := fun h tk c1 w0 hd =>
    runs F hn res hR n (Nat.zero_add n) rfl w0 hd
  have nb : ∀ b o, h0.get? b = some o → b ≠ D := fun b o e z => by rw [z, n0] at e; cases e
  have same : (Builtin.List.listSameRef (.ref D) (.ref r)) = false := by simp [Builtin.List.listSameRef, G.ne]
  unfold Builtin.List.listExtendWith
  refine wpAny_bind (wpAny_typeOf (T := T) (G.type s k0) ?_)
  simp only [same, G.notL, G.notT, Bool.or_false, Bool.false_eq_true, if_false]
  refine wpAny_bind (G.iter _ _ s _ _ k0 hD hS fun h1 w1 e1 k1 => ?_)
  refine wpAny_bind (wpAny_holding (G.hint _ _ _ _ k1 fun b => ?_))
  refine wpAny_ite_split (fun _ => ?_) (fun _ => wpAny_pure ⟨plainId_quiet PySem.F.plain_extend_loop _, go h1 s.toks c w1 e1⟩)
  refine wpAny_bind (wpAny_rule (wpAny_bind ?_))
  show wpAny _ _ (updateSeq D (·.push .none) >>= fun _ => updateSeq D (·.pop)) _ _ _
  refine wpAny_bind (wpAny_updateSeq e1 rfl ?_)
  have e2 := Heap.get?_update_self (Obj.mapSeq (·.push Value.none)) e1 rfl
  refine wpAny_updateSeq (hz := by seq_fits) e2 rfl ?_
  have e3 := Heap.get?_update_self (Obj.mapSeq (·.pop)) e2 rfl
  refine wpAny_pure ⟨plainId_quiet PySem.F.plain_extend_loop _, go _ _ _ (F.stay _ _ h1 _ w1 (fun b o hb e => (Heap.get?_update_other _ _ (Ne.symm hb)).trans ((Heap.get?_update_other _ _ (Ne.symm hb)).trans e)) ?_) e3⟩
  rw [Heap.size_update, Heap.size_update]
  exact Nat.le_refl _
theorem calls {E : Value → Shared → Prop} {Q : Value → Shared → Prop} {T : String} {r : Addr} (hh : A.handled = none) (hn : n ≤ sizeLine) (G : Given prog w T r I s.heap.objs.size n W Z s.heap)
    (hQ : ∀ h' tk vs c, Z vs h' → vs.length = n → h'.get? s.heap.objs.size = some (lstO vs c) → Q (.ref s.heap.objs.size) { s with heap := h', toks := tk }) : wpAny (model prog w) A (call (.type "list") [.ref r]) Q E s := by
  refine callType_codes (Q₁ := fun obj s₁ => obj = .ref s.heap.objs.size ∧ s₁ = { s with heap := s.heap.push (lstO [] 0) }) PySem.F.called_list (PySem.F.typeCall_list_1 _) PySem.F.entry_list_init (code_list_new _ ⟨rfl, rfl⟩) fun obj s1 q => ?_
  obtain ⟨rfl, rfl⟩ := q
  have e0 : (s.heap.push (lstO [] 0)).get? s.heap.objs.size = some (lstO [] 0) := Heap.get?_push_size _ rfl
  refine ⟨⟨_, e0, rfl⟩, PySem.F.args_list_init_2 _ _, ?_⟩
  show wpAny _ _ (do let old ← Builtin.List.listItems (.ref s.heap.objs.size); Builtin.List.listUpdate (.ref s.heap.objs.size) (fun _ => #[]); letGo old.toList.reverse; Builtin.List.listExtendWith (.ref s.heap.objs.size) (.ref r) .none) _ _ _
  refine wpAny_bind ?_
  unfold Builtin.List.listItems
  refine wpAny_bind (wpAny_seqItems e0 rfl (wpAny_pure ?_))
  show wpAny _ _ (updateSeq s.heap.objs.size (fun _ => #[]) >>= fun _ => letGo (#[] : Array Value).toList.reverse >>= fun _ => Builtin.List.listExtendWith (.ref s.heap.objs.size) (.ref r) .none) _ _ _
  refine wpAny_bind (wpAny_updateSeq e0 rfl ?_)
  have e1 := Heap.get?_update_self (Obj.mapSeq (fun _ => (#[] : Array Value))) e0 rfl
  refine wpAny_bind (wpAny_letGo ?_)
  refine extnd (A := A.in1) (c := 0) G hh hn ?_ (fun b o e => ?_) ?_ .none e1 fun h' tk vs c hw hl hd => ⟨rfl, hQ h' tk vs c hw hl hd⟩
  · rw [Heap.size_update, Heap.size_push]
  · exact (Heap.get?_update_other _ _ (Ne.symm (Nat.ne_of_lt (Heap.lt_size e)))).trans (Heap.get?_push_of_some _ e)
  · cases q : s.heap.get? s.heap.objs.size with
    | none => rfl
    | some o => exact absurd (Heap.lt_size q) (Nat.lt_irrefl _)
end
end Grow
end Qd


set_option Elab.async false
set_option linter.all false
set_option maxRecDepth 100000
set_option maxHeartbeats 4000000
/-! Second layer, part I: list(zip(..)), list(d.items()) over data. -/
namespace Qd
open PySem L2

/-! ### new tuples, many at once -/
def putP : Hp → List Addr → List (List V) → Hp
  | H, a :: as, p :: ps => putP (upd H a (.tup p)) as ps
  | H, _, _ => H
theorem putP_off {b : Addr} : ∀ (as : List Addr) (ps : List (List V)) (H : Hp), b ∉ as → putP H as ps b = H b
  | [], _, _, _ => rfl
  | _ :: _, [], _, _ => rfl
  | a :: as, p :: ps, H, h => by
    have h1 : b ∉ as := fun z => h (List.mem_cons_of_mem _ z)
    have h2 : b ≠ a := fun z => h (by rw [z]; exact List.mem_cons_self ..)
    exact (putP_off as ps _ h1).trans (upd_ne h2)
theorem putP_at : ∀ (as : List Addr) (ps : List (List V)) (H : Hp), as.length = ps.length → as.Nodup → ∀ (j : Nat) (a : Addr), as[j]? = some a → ∃ p, ps[j]? = some p ∧ putP H as ps a = some (.tup p)
  | [], _, _, _, _, j, a, h => by simp at h
  | _ :: _, [], _, hl, _, _, _, _ => by simp at hl
  | a :: as, p :: ps, H, hl, hn, 0, b, h => by
    obtain rfl : a = b := by simpa using h
    exact ⟨p, rfl, (putP_off as ps _ (List.nodup_cons.mp hn).1).trans upd_same⟩
  | a :: as, p :: ps, H, hl, hn, j + 1, b, h => by
    obtain ⟨q, h1, h2⟩ := putP_at as ps (upd H a (.tup p)) (by simpa using hl) (List.nodup_cons.mp hn).2 j b (by simpa using h)
    exact ⟨q, by simpa using h1, h2⟩
theorem putP_keep {b : Addr} {u : HO} {as : List Addr} {ps : List (List V)} {H : Hp} (h : H b = some u) (hn : ∀ a ∈ as, H a = none) : putP H as ps b = some u :=
  (putP_off as ps H fun z => by rw [hn b z] at h; cases h).trans h
/-- new objects, many at once: H' tells of all -/
theorem laid_many {X : Cx} {pins : List (Addr × Obj)} {σ : St} {H H' : Hp} {s : Shared} {h' : Heap} {tk : Nat} (I : Inv X pins σ H s) (hk : ∀ b o, s.heap.get? b = some o → h'.get? b = some o) (up : ∀ b u, H b = some u → H' b = some u) (low : ∀ b o, s.heap.get? b = some o → H' b = H b)
    (new : ∀ b u, H' b = some u → H b = none → ObjOk X.prog X.w H' h' b u) : Inv X pins σ H' { s with heap := h', toks := tk } := by
  refine I.call' (ch := []) rfl ⟨fun b o q _ _ _ => hk b o q, fun b o q _ _ _ => ⟨o.slots, hk b o q⟩, fun b o q n _ => (low b o q).trans n, fun b o q _ => ⟨o, hk b o q⟩, fun b xs q => up b _ q, fun b o u q => up b _ q, fun b ps q => ⟨#[], by rw [up b _ q]; simp⟩⟩
    (fun b u q => ?_) I.bare fun b z => absurd z (by simp)
  cases e : H b with
  | none => exact new b u q e
  | some v =>
    have e2 := up b v e
    rw [q] at e2
    cases e2
    exact (I.hok b u e).stay (fun d v _ y => hk d v y) (fun d y => up d _ y) fun d xs y => up d _ y
section
variable {K : PySem.W.Frag} {T : Tz} {F H : Hp} {A : MH}
/-- rows of data, their tuples laid -/
inductive Rows (K : PySem.W.Frag) (F : Hp) : List (List V) → List (List D) → Prop
  | nil : Rows K F [] []
  | cons {v : List V} {d : List D} {vs : List (List V)} {ds : List (List D)} : Reps K F v d → Rows K F vs ds → Rows K F (v :: vs) (d :: ds)
theorem Rows.mono {F F' : Hp} (e : Same F F') {vs : List (List V)} {ds : List (List D)} (r : Rows K F vs ds) : Rows K F' vs ds := by
  induction r with
  | nil => exact .nil
  | cons h _ ih => exact .cons (h.mono e) ih
theorem RS.goP {ps : List (List V)} {ds : List (List D)} {F : Hp} (r : Rows K F ps ds) : ∀ {as : List Addr} {F1 H : Hp}, Same F F1 → RS K T F1 A H → as.length = ps.length → as.Nodup → (∀ a ∈ as, H a = none) →
    ∃ F', Go K T F1 A H F' A (putP H as ps) ∧ Reps K F' (as.map .ref) (ds.map .tup) := by
  induction r with
  | nil =>
    intro as F1 H e R hl hn hf
    cases as with
    | nil => exact ⟨F1, R.go, .nil⟩
    | cons a as => simp at hl
  | @cons v d vs ds r rr ih =>
    intro as F1 H e R hl hn hf
    cases as with
    | nil => simp at hl
    | cons a as =>
      have hn' := List.nodup_cons.mp hn
      have g := R.goF (u := .tup v) (hf a (List.mem_cons_self ..)) trivial
      obtain ⟨F', g2, r2⟩ := ih (e.trans g.ext) g.rs (by simpa using hl) hn'.2 (fun b hb => by rw [upd_ne (show b ≠ a from fun z => hn'.1 (by rw [← z]; exact hb))]; exact hf b (List.mem_cons_of_mem _ hb))
      exact ⟨F', g.trans g2, .cons (.tup (.of (g2.ext _ _ upd_same)) (r.mono (e.trans (g.trans g2).ext))) r2⟩
/-- a new list of new tuples -/
theorem newLP_ok {m : Bool} {ds : List (List D)} {P : KQ} {vs : List (List V)} {p : Addr} {as : List Addr} {Q : VK} (R : RS K T F A H) (h : newL m (ds.map .tup) A P) (r : Rows K F vs ds) (hl : as.length = vs.length) (hn : as.Nodup) (hf : ∀ a ∈ as, H a = none) (hp : H p = none) (hpa : p ∉ as)
    (k : ∀ d A' v H' F', P d A' → Go K T F A H F' A' H' → Rep K F' v d → Q v H') : Q (.ref p) (upd (putP H as vs) p (.lst (as.map .ref))) := by
  obtain ⟨F', g, r'⟩ := RS.goP r (Same.refl F) R hl hn hf
  exact newL_ok g.rs h r' (by rw [putP_off _ _ _ hpa]; exact hp) fun d A' v H' F2 p g2 rr => k d A' v H' F2 p (g.trans g2) rr
end
/-- the walk's end: the list at D of the tuples at as -/
theorem inv_rows {X : Cx} {pins : List (Addr × Obj)} {σ : St} {H : Hp} {s : Shared} {h' : Heap} {tk c : Nat} {D : Addr} {as : List Addr} {vs : List (List V)} {us : List (List Value)} (I : Inv X pins σ H s) (hk : ∀ b o, s.heap.get? b = some o → h'.get? b = some o) (hD : s.heap.objs.size ≤ D)
    (hd : h'.get? D = some (Grow.lstO (as.map .ref) c)) (hz : as.length ≤ sizeLine) (hl : as.length = vs.length) (hn : as.Nodup) (ha : ∀ a ∈ as, s.heap.objs.size ≤ a) (hDa : D ∉ as) (hu : Paired Vals vs us) (h2 : ∀ v ∈ vs, v.length ≤ sizeLine)
    (ht : ∀ (j : Nat) (a : Addr) (u : List Value), as[j]? = some a → us[j]? = some u → h'.get? a = some { cls := .type "tuple", data := .seq u.toArray }) :
    Inv X pins σ (upd (putP H as vs) D (.lst (as.map .ref))) { s with heap := h', toks := tk } := by
  have nA : ∀ a ∈ as, H a = none := fun a hm => I.hok.fresh (ha a hm)
  have nD : H D = none := I.hok.fresh hD
  refine laid_many I hk (fun b u e => ?_) (fun b o e => ?_) fun b u e n => ?_
  · rw [upd_ne (ne_of_none e nD)]; exact putP_keep e nA
  · have lt := Heap.lt_size e
    rw [upd_ne (fun z => by rw [z] at lt; exact absurd lt (Nat.not_lt.mpr hD)), putP_off _ _ _ fun z => absurd lt (Nat.not_lt.mpr (ha b z))]
  · by_cases hb : b = D
    · subst hb
      rw [upd_same] at e; cases e
      exact ⟨by rw [List.length_map]; exact hz, as.map .ref, c, vals_refs as, hd⟩
    · rw [upd_ne hb] at e
      by_cases hm : b ∈ as
      · obtain ⟨j, hj⟩ := List.mem_iff_getElem?.mp hm
        obtain ⟨p, h3, h4⟩ := putP_at as vs H hl hn j b hj
        rw [h4] at e; cases e
        have hlu := hu.length
        have hjl : j < us.length := by
          have := (List.getElem?_eq_some_iff.mp h3).1
          omega
        have rv := paired_at hu h3 (List.getElem?_eq_getElem hjl)
        exact ⟨h2 p (List.mem_of_getElem? h3), us[j], rv, ⟨_, ht j b _ hj (List.getElem?_eq_getElem hjl), rfl, _, rfl⟩⟩
      · rw [putP_off _ _ _ hm] at e
        rw [n] at e; cases e

/-! ### the tuples made so far -/
structure MadeP (lo : Addr) (n : Nat) (Pr : Nat → Value → Value → Prop) (h : Heap) (as : List Addr) : Prop where
  len : as.length = n
  nod : as.Nodup
  above : ∀ a ∈ as, lo < a ∧ a < h.objs.size
  at' : ∀ (j : Nat) (a : Addr), as[j]? = some a → ∃ x y, Pr j x y ∧ h.get? a = some { cls := .type "tuple", data := .seq #[x, y] }
theorem MadeP.nil {lo : Addr} {Pr : Nat → Value → Value → Prop} {h : Heap} : MadeP lo 0 Pr h [] := ⟨rfl, .nil, fun a z => by simp at z, fun j a z => by simp at z⟩
theorem MadeP.mono {lo : Addr} {n : Nat} {Pr : Nat → Value → Value → Prop} {h h' : Heap} {as : List Addr} (g : MadeP lo n Pr h as) (k : ∀ b o, lo < b → h.get? b = some o → h'.get? b = some o) (hs : h.objs.size ≤ h'.objs.size) : MadeP lo n Pr h' as :=
  ⟨g.len, g.nod, fun a ha => ⟨(g.above a ha).1, Nat.lt_of_lt_of_le (g.above a ha).2 hs⟩, fun j a hj => let ⟨x, y, h1, h2⟩ := g.at' j a hj; ⟨x, y, h1, k a _ (g.above a (List.mem_of_getElem? hj)).1 h2⟩⟩
theorem MadeP.snoc {lo : Addr} {n : Nat} {Pr : Nat → Value → Value → Prop} {h h' : Heap} {as : List Addr} {x y : Value} (g : MadeP lo n Pr h as) (hlo : lo < h.objs.size) (k : ∀ b o, lo < b → h.get? b = some o → h'.get? b = some o) (hs : h'.objs.size = h.objs.size + 1) (p : Pr n x y)
    (ht : h'.get? h.objs.size = some { cls := .type "tuple", data := .seq #[x, y] }) : MadeP lo (n + 1) Pr h' (as ++ [h.objs.size]) := by
  have g' := g.mono k (by omega)
  refine ⟨by rw [List.length_append, g.len]; rfl, ?_, fun a ha => ?_, fun j a hj => ?_⟩
  · refine List.nodup_append.mpr ⟨g.nod, by simp, fun a ha b hb => ?_⟩
    rw [List.mem_singleton.mp hb]
    exact Nat.ne_of_lt (g.above a ha).2
  · rcases List.mem_append.mp ha with q | q
    · exact g'.above a q
    · rw [List.mem_singleton.mp q]; exact ⟨hlo, by rw [hs]; exact Nat.lt_succ_self _⟩
  · by_cases hl : j < as.length
    · rw [List.getElem?_append_left hl] at hj; exact g'.at' j a hj
    · rw [List.getElem?_append_right (by omega)] at hj
      have e0 : j - as.length = 0 := by
        cases q : j - as.length with
        | zero => rfl
        | succ m => rw [q] at hj; simp at hj
      rw [e0] at hj
      have ea : h.objs.size = a := by simpa using hj
      subst ea
      have ej : j = n := by have := g.len; omega
      subst ej
      exact ⟨x, y, p, ht⟩

/-! ### zip of two lists -/
section
variable {prog : Program} {w : World}
def ZW (hb : Heap) (z TI TO i1 i2 l1 l2 D : Addr) (xs ys : Array Value) (i : Nat) (vs : List Value) (h : Heap) : Prop :=
  (∀ b o, b ≠ z → b ≠ TO → b ≠ i1 → b ≠ i2 → hb.get? b = some o → h.get? b = some o) ∧ D < h.objs.size ∧ IsPair h TI (.ref i1) (.ref i2) ∧ h.IsListIter i1 l1 i ∧ h.IsListIter i2 l2 i ∧ h.IsList l1 xs ∧ h.IsList l2 ys ∧
  ((IsZip h z TI TO .none ∧ ∃ a b, IsPair h TO a b) ∨ ∃ T f oT, IsZipHeld h z TI TO T f ∧ h.get? T = some oT ∧ T ≠ z ∧ T ≠ i1 ∧ T ≠ i2 ∧ T ≠ D) ∧
  ∃ as, vs = as.map Value.ref ∧ MadeP D i (fun j x y => xs[j]? = some x ∧ ys[j]? = some y) h as
def ZZ (hb : Heap) (z TO i1 i2 D : Addr) (xs ys : Array Value) (vs : List Value) (h : Heap) : Prop :=
  (∀ b o, b ≠ z → b ≠ TO → b ≠ i1 → b ≠ i2 → hb.get? b = some o → h.get? b = some o) ∧ ∃ as, vs = as.map Value.ref ∧ MadeP D (min xs.size ys.size) (fun j x y => xs[j]? = some x ∧ ys[j]? = some y) h as
theorem zipFeed {hb : Heap} {z TI TO i1 i2 l1 l2 D : Addr} {xs ys : Array Value} (ap : ZipApart z TI TO i1 i2 l1 l2) (lt : z < D ∧ TI < D ∧ TO < D ∧ i1 < D ∧ i2 < D ∧ l1 < D ∧ l2 < D) (ndb : ∀ o, hb.get? D = some o → False) (A : Around) (hh : A.handled = none) :
    Grow.Feed prog w A z D (min xs.size ys.size) (ZW hb z TI TO i1 i2 l1 l2 D xs ys) (ZZ hb z TO i1 i2 D xs ys) where
  stay := fun i vs h h' st k hs => by
    obtain ⟨h0, hD, hTI, h1, h2, hl1, hl2, hz, as, e, g⟩ := st
    obtain ⟨q1, q2, q3, q4, q5, q6, q7⟩ := lt
    have kk : ∀ {b : Addr}, b < D → ∀ o, h.get? b = some o → h'.get? b = some o := fun {b} hb o e => k b o (Nat.ne_of_lt hb) e
    refine ⟨fun b o n1 n2 n3 n4 e0 => ?_, Nat.lt_of_lt_of_le hD hs, kk q2 _ hTI, h1.at (kk q4), h2.at (kk q5), hl1.at (kk q6), hl2.at (kk q7), ?_, as, e, g.mono (fun b o hb e0 => k b o (Nat.ne_of_gt hb) e0) hs⟩
    · by_cases hb : b = D
      · subst hb
        exact (ndb _ e0).elim
      · exact k b o hb (h0 b o n1 n2 n3 n4 e0)
    · rcases hz with ⟨hz, a, b, hTO⟩ | ⟨t, f, oT, hz, hT, r1, r2, r3, r4⟩
      · exact .inl ⟨kk q1 _ hz, a, b, kk q3 _ hTO⟩
      · exact .inr ⟨t, f, oT, kk q1 _ hz, k t _ r4 hT, r1, r2, r3, r4⟩
  item := fun s i vs o Q E hi st hd hQ => by
    obtain ⟨h0, hD, hTI, h1, h2, hl1, hl2, hz, as, e, g⟩ := st
    obtain ⟨q1, q2, q3, q4, q5, q6, q7⟩ := lt
    have ex := Array.getElem?_eq_getElem (xs := xs) (i := i) (by omega)
    have ey := Array.getElem?_eq_getElem (xs := ys) (i := i) (by omega)
    have fresh : ∀ {b : Addr}, b < D → s.heap.objs.size ≠ b := fun {b} hb => Nat.ne_of_gt (Nat.lt_trans hb hD)
    have nD : s.heap.objs.size ≠ D := Nat.ne_of_gt hD
    have more : ∀ {h' : Heap} {tk : Nat}, h'.get? s.heap.objs.size = some { cls := .type "tuple", data := .seq #[xs[i]'(by omega), ys[i]'(by omega)] } → h'.objs.size = s.heap.objs.size + 1 → (∀ b o, b ≠ z → b ≠ TO → b ≠ i1 → b ≠ i2 → s.heap.get? b = some o → h'.get? b = some o) →
        h'.IsListIter i1 l1 (i + 1) → h'.IsListIter i2 l2 (i + 1) → ((IsZip h' z TI TO .none ∧ ∃ a b, IsPair h' TO a b) ∨ ∃ T f oT, IsZipHeld h' z TI TO T f ∧ h'.get? T = some oT ∧ T ≠ z ∧ T ≠ i1 ∧ T ≠ i2 ∧ T ≠ D) → Q (some (.ref s.heap.objs.size)) { s with heap := h', toks := tk } := fun {h' tk} ht hs k a3 a4 a5 => by
      have k2 : ∀ b o, D < b → s.heap.get? b = some o → h'.get? b = some o := fun b o hb e => k b o (Nat.ne_of_gt (Nat.lt_trans q1 hb)) (Nat.ne_of_gt (Nat.lt_trans q3 hb)) (Nat.ne_of_gt (Nat.lt_trans q4 hb)) (Nat.ne_of_gt (Nat.lt_trans q5 hb)) e
      refine hQ _ _ _ ⟨fun b o n1 n2 n3 n4 e0 => k b o n1 n2 n3 n4 (h0 b o n1 n2 n3 n4 e0), by rw [hs]; exact Nat.lt_succ_of_lt hD, k _ _ ap.TIz ap.TITO ap.TIi1 ap.TIi2 hTI, a3, a4, hl1.at fun o e => k _ o ap.l1z ap.l1TO ap.l1i1 ap.l1i2 e, hl2.at fun o e => k _ o ap.l2z ap.l2TO ap.l2i1 ap.l2i2 e, a5,
        as ++ [s.heap.objs.size], by rw [e, List.map_append]; rfl, g.snoc hD k2 hs ⟨ex, ey⟩ ht⟩ (k D o (Nat.ne_of_gt q1) (Nat.ne_of_gt q3) (Nat.ne_of_gt q4) (Nat.ne_of_gt q5) hd)
    rcases hz with ⟨hz, a, b, hTO⟩ | ⟨t, f, oT, hz, hT, r1, r2, r3, r4⟩
    · refine wpAny_pyNext_zip_item ap hz hTI hTO h1 h2 hl1 hl2 ex ey fun h' a1 a2 a3 a4 a5 a6 hk => ?_
      exact more (tk := s.toks) a5 a6 hk a3 a4 (.inr ⟨s.heap.objs.size, false, _, a1, a5, fresh q1, fresh q4, fresh q5, nD⟩)
    · refine wpAny_pyNext_zip_item_held ap hz hT hTI h1 h2 hl1 hl2 ex ey fun h' a1 a3 a4 a5 a6 hk => ?_
      exact more (tk := s.toks) a5 a6 (fun b o n1 _ n3 n4 e => hk b o n1 n3 n4 e) a3 a4 (.inr ⟨t, true, oT, a1, hk _ _ r1 r2 r3 hT, r1, r2, r3, r4⟩)
  done := fun s vs o Q E st hd hQ => by
    obtain ⟨h0, hD, hTI, h1, h2, hl1, hl2, hz, as, e, g⟩ := st
    obtain ⟨q1, q2, q3, q4, q5, q6, q7⟩ := lt
    have hend : xs[min xs.size ys.size]? = none ∨ ys[min xs.size ys.size]? = none := by
      rcases Nat.lt_or_ge xs.size ys.size with h | h
      · exact .inl (Array.getElem?_eq_none (by omega))
      · exact .inr (Array.getElem?_eq_none (by omega))
    have fin : ∀ {h' : Heap} {tk : Nat}, (∀ b o, b ≠ z → b ≠ TO → b ≠ i1 → b ≠ i2 → s.heap.get? b = some o → h'.get? b = some o) → Q none { s with heap := h', toks := tk } := fun {h' tk} k => by
      refine hQ h' tk ⟨fun b o n1 n2 n3 n4 e0 => k b o n1 n2 n3 n4 (h0 b o n1 n2 n3 n4 e0), as, e, g.len, g.nod, fun a ha => ?_, fun j a hj => ?_⟩ (k D o (Nat.ne_of_gt q1) (Nat.ne_of_gt q3) (Nat.ne_of_gt q4) (Nat.ne_of_gt q5) hd)
      · obtain ⟨j, hj⟩ := List.mem_iff_getElem?.mp ha
        obtain ⟨x, y, _, et⟩ := g.at' j a hj
        have hb := (g.above a ha).1
        exact ⟨hb, Heap.lt_size (k a _ (Nat.ne_of_gt (Nat.lt_trans q1 hb)) (Nat.ne_of_gt (Nat.lt_trans q3 hb)) (Nat.ne_of_gt (Nat.lt_trans q4 hb)) (Nat.ne_of_gt (Nat.lt_trans q5 hb)) et)⟩
      · obtain ⟨x, y, p, et⟩ := g.at' j a hj
        have hb := (g.above a (List.mem_of_getElem? hj)).1
        exact ⟨x, y, p, k a _ (Nat.ne_of_gt (Nat.lt_trans q1 hb)) (Nat.ne_of_gt (Nat.lt_trans q3 hb)) (Nat.ne_of_gt (Nat.lt_trans q4 hb)) (Nat.ne_of_gt (Nat.lt_trans q5 hb)) et⟩
    rcases hz with ⟨hz, a, b, hTO⟩ | ⟨t, f, oT, hz, hT, r1, r2, r3, r4⟩
    · exact wpAny_pyNext_zip_end hh ap hz hTI hTO h1 h2 hl1 hl2 hend fun h' k => fin (tk := s.toks) k
    · exact wpAny_pyNext_zip_end_held hh ap hz hT hTI h1 h2 hl1 hl2 hend fun h' k => fin (tk := s.toks) fun b o n1 _ n3 n4 e => k b o n1 n3 n4 e
theorem zip_noLen : typeLookup (.type "zip") "__len__" = pure none := by rw [typeLookup_type, builtinLookup_eq_fast]; kernel_rfl
theorem zip_noHint : typeLookup (.type "zip") "__length_hint__" = pure none := by rw [typeLookup_type, builtinLookup_eq_fast]; kernel_rfl
theorem zip_hint {A : Around} {E : Value → Shared → Prop} {s : Shared} {z : Addr} {Q : Bool → Shared → Prop} (hT : s.TypeIs (.ref z) "zip") (h : ∀ b, Q b s) : wpAny (model prog w) A (Builtin.List.listLengthHint (.ref z)) Q E s := by
  unfold Builtin.List.listLengthHint
  refine wpAny_bind (wpAny_specialOf hT zip_noLen ?_)
  show wpAny _ _ (specialOf (Value.ref z) (Str.ofString "__length_hint__") >>= _) _ _ _
  refine wpAny_bind (wpAny_specialOf hT zip_noHint ?_)
  exact wpAny_pure (h _)
theorem zipGiven {h0 : Heap} {z TI TO i1 i2 l1 l2 : Addr} {xs ys : Array Value} (ap : ZipApart z TI TO i1 i2 l1 l2) (hz : IsZip h0 z TI TO .none) (hTI : IsPair h0 TI (.ref i1) (.ref i2)) {a b : Value} (hTO : IsPair h0 TO a b) (h1 : h0.IsListIter i1 l1 0) (h2 : h0.IsListIter i2 l2 0)
    (hl1 : h0.IsList l1 xs) (hl2 : h0.IsList l2 ys) : Grow.Given prog w "zip" z z h0.objs.size (min xs.size ys.size) (ZW h0 z TI TO i1 i2 l1 l2 h0.objs.size xs ys) (ZZ h0 z TO i1 i2 h0.objs.size xs ys) h0 where
  notL := by decide
  notT := by decide
  ne := Nat.ne_of_gt (Heap.lt_size hz)
  type := fun s k => ⟨_, k _ _ hz, rfl⟩
  hint := fun A E s Q k h => zip_hint ⟨_, k _ _ hz, rfl⟩ h
  iter := fun A E s o Q k hs hd h => wpAny_pyIter_zip (k _ _ hz) (h s.heap ⟨fun b o _ _ _ _ e => k b o e, by rw [hs]; exact Nat.lt_succ_self _, k _ _ hTI, h1.at fun o e => k _ o e, h2.at fun o e => k _ o e, hl1.at fun o e => k _ o e, hl2.at fun o e => k _ o e, .inl ⟨k _ _ hz, a, b, k _ _ hTO⟩, [], rfl, .nil⟩ hd k)
  feed := fun A hh => zipFeed ap ⟨Heap.lt_size hz, Heap.lt_size hTI, Heap.lt_size hTO, let ⟨_, e, _⟩ := h1; Heap.lt_size e, let ⟨_, e, _⟩ := h2; Heap.lt_size e, let ⟨_, e, _⟩ := hl1; Heap.lt_size e, let ⟨_, e, _⟩ := hl2; Heap.lt_size e⟩ (fun o e => absurd (Heap.lt_size e) (Nat.lt_irrefl _)) A hh
end
section
variable {X : Cx} {T : Tz} {e e2 : Expr} {t : TAQ} {p p2 pos pos2 : Pos}
def pairL (xs ys : List D) : List D := (xs.zip ys).map fun p => .tup [p.1, p.2]
/-- list(zip(a, b)), two lists -/
def qListZip (m : Bool) (t : TAQ) : TQ := fun s A P => t s A fun ds A1 => match ds with
  | [x, y] => okQ (lstD A1 x) fun xs => okQ (lstD A1 y) fun ys => newL m (pairL xs ys) A1 P
  | _ => False
theorem zipRows {K : PySem.W.Frag} {F : Hp} : ∀ {vs ws : List V} {xs ys : List D}, Reps K F vs xs → Reps K F ws ys → Rows K F ((vs.zip ws).map fun p => [p.1, p.2]) ((xs.zip ys).map fun p => [p.1, p.2])
  | _, _, _, _, .nil, _ => by simp; exact .nil
  | _, _, _, _, .cons _ _, .nil => by simp; exact .nil
  | _, _, _, _, .cons a b, .cons c d => .cons (.cons a (.cons c .nil)) (zipRows b d)
theorem zipVals : ∀ {vs ws : List V} {us ts : List Value}, Vals vs us → Vals ws ts → Paired Vals ((vs.zip ws).map fun p => [p.1, p.2]) ((us.zip ts).map fun p => [p.1, p.2])
  | _, _, _, _, .nil, _ => by simp; exact .nil
  | _, _, _, _, .cons _ _, .nil => by simp; exact .nil
  | _, _, _, _, .cons a b, .cons c d => .cons (.cons a (.cons c .nil)) (zipVals b d)
theorem pq_listZip (m : Bool) (hc : X.calm = true) (hg : Gl X "list") (hm : X.mg "list" = none) (hg2 : Gl X "zip") (hm2 : X.mg "zip" = none) (ha : PAQ X T [e, e2] t) (hv : bootBuiltins "list" = some (.type "list") := by decide +kernel)
    (hs : starEach [.Call (.Name "zip" p2) [e, e2] [] pos2] X.env = (false, eval (.Call (.Name "zip" p2) [e, e2] [] pos2) X.env) :: starEach [] X.env := by rfl)
    (hs2 : starEach [e, e2] X.env = (false, eval e X.env) :: starEach [e2] X.env := by rfl) (hpl : (backTo pos2 (starEach [e2] X.env)).any (·.1) = false := by rfl) :
    PQ X T (.Call (.Name "list" p) [.Call (.Name "zip" p2) [e, e2] [] pos2] [] pos) (qListZip m t) := ⟨⟨fun pins s σ H Q I h => by
  obtain ⟨F, A, sl, hsl, hR, P, ht, k⟩ := h
  refine wpAny_Call_Name_kw (ld_blt I hg hm hv ?_)
  refine PyProof.Rows.callWith_type1 ?_ hs rfl
  rw [hs]
  show wpAny _ _ (spliced ((false, eval (.Call (.Name "zip" p2) [e, e2] [] pos2) X.env) :: backTo pos (starEach [] X.env))) _ _ s
  refine Calls.spliced_cons ?_
  refine PyProof.Rows.Call_ (ld_blt I hg2 hm2 PyProof.Rows.boot_zip (PyProof.Rows.callWith_type1 (thn (ha.pa.run pos2 pins s σ H _ I ⟨F, A, sl, hsl, hR, _, ht, fun ds A1 vs H1 F1 p1 g1 r1 => (show (fun vs H1 => ∃ F1 A1 ds, Reps X.K F1 vs ds ∧ Go X.K T F A H F1 A1 H1 ∧ (match ds with
    | [x, y] => okQ (lstD A1 x) fun xs => okQ (lstD A1 y) fun ys => newL m (pairL xs ys) A1 P
    | _ => False)) vs H1 from ⟨F1, A1, ds, r1, g1, p1⟩)⟩) fun us s1 ⟨vs, H1, I1, r1, q1⟩ => ?_) hs2 hpl))
  obtain ⟨F1, A1, ds, rd, g1, p1⟩ := q1
  split at p1
  · rename_i x y
    obtain ⟨v, w, rfl, rx, ry⟩ := reps2 rd
    cases ex : lstD A1 x with
    | none => rw [ex] at p1; exact p1.elim
    | some xs =>
      rw [ex] at p1
      simp only [okQ_some] at p1
      cases ey : lstD A1 y with
      | none => rw [ey] at p1; exact p1.elim
      | some ys =>
        rw [ey] at p1
        simp only [okQ_some] at p1
        obtain ⟨a, vs, rfl, hx, hxr⟩ := lst_rep g1.rs rx ex
        obtain ⟨b, ws, rfl, hy, hyr⟩ := lst_rep g1.rs ry ey
        obtain ⟨u1, u2, rfl, ru1, ru2⟩ := vals2 r1
        obtain rfl : u1 = Value.ref a := ru1
        obtain rfl : u2 = Value.ref b := ru2
        obtain ⟨its, rv, pl1, hz1⟩ := I1.list hx
        obtain ⟨its2, rv2, pl2, hz2⟩ := I1.list hy
        refine call_zip_2 pl1.isList pl2.isList fun h' hz hTI hTO h1 h2 hsz hk => ?_
        refine Calls.spliced_nil ?_
        have l1 : its.length = vs.length := rv.length.symm
        have l2 : its2.length = ws.length := rv2.length.symm
        refine Grow.calls (hn := ?_) (I1.ok.hd hc) (zipGiven (PySem.W.ktu_apart s1.heap.objs.size a b pl1.lt pl2.lt) hz hTI hTO h1 h2 (pl1.isList.at fun o e => hk _ o e) (pl2.isList.at fun o e => hk _ o e)) fun h2 tk vs2 c hw hl hd => ?_
        · simp only [List.size_toArray]; omega
        obtain ⟨kk, as, eas, g⟩ := hw
        subst eas
        have hle : @LE.le Nat _ s1.heap.objs.size h'.objs.size := by rw [hsz]; exact Nat.le_add_right _ _
        have hsz1 : h'.objs.size = s1.heap.objs.size + 5 := hsz
        have hkk : ∀ b o, s1.heap.get? b = some o → h2.get? b = some o := fun b o e => by
          have lt : @LT.lt Nat _ b s1.heap.objs.size := Heap.lt_size e
          exact kk b o (Nat.ne_of_lt (Nat.lt_add_right 4 lt)) (Nat.ne_of_lt (Nat.lt_add_right 3 lt)) (Nat.ne_of_lt lt) (Nat.ne_of_lt (Nat.lt_add_right 1 lt)) (hk b o e)
        have hla : as.length = min vs.length ws.length := by rw [g.len]; simp only [List.size_toArray]; omega
        have hl2 : as.length = ((vs.zip ws).map fun p => [p.1, p.2]).length := by rw [List.length_map, List.length_zip, hla]
        have ab : ∀ a ∈ as, s1.heap.objs.size ≤ a := fun a ha => Nat.le_trans hle (Nat.le_of_lt (g.above a ha).1)
        have nD : h'.objs.size ∉ as := fun z => absurd (g.above _ z).1 (Nat.lt_irrefl _)
        have I2 := inv_rows (tk := tk) (vs := (vs.zip ws).map fun p => [p.1, p.2]) (us := (its.zip its2).map fun p => [p.1, p.2]) I1 hkk hle hd (by omega) hl2 g.nod ab nD (zipVals rv rv2) (fun v hv => by
            obtain ⟨q, _, rfl⟩ := List.mem_map.mp hv
            rw [sizeLine_eq]; simp) (fun j a u hj hu => by
            obtain ⟨x1, y1, ⟨e1, e3⟩, e4⟩ := g.at' j a hj
            rw [List.getElem?_map] at hu
            cases hq : (its.zip its2)[j]? with
            | none => rw [hq] at hu; cases hu
            | some q =>
              rw [hq] at hu
              obtain rfl : [q.1, q.2] = u := by simpa using hu
              obtain ⟨q1, q2⟩ := q
              obtain ⟨w1, w2⟩ := List.getElem?_zip_eq_some.mp hq
              have e1' : its[j]? = some x1 := by simpa using e1
              have e3' : its2[j]? = some y1 := by simpa using e3
              rw [e1'] at w1; rw [e3'] at w2
              cases w1; cases w2
              exact e4)
        refine ⟨.ref h'.objs.size, _, I2, rfl, ?_⟩
        exact newLP_ok (ds := (xs.zip ys).map fun p => [p.1, p.2]) g1.rs (by rw [List.map_map]; exact p1) (zipRows hxr hyr) hl2 g.nod (fun a ha => I1.hok.fresh (ab a ha)) (I1.hok.fresh hle) nD fun d A' v H' F' p g r => k _ _ _ _ _ p (g1.trans g) r
  · exact p1.elim⟩⟩
end

/-! ### the items of a dict -/
section
variable {prog : Program} {w : World}
def EntP (es : Array DictEntry) (j : Nat) (x y : Value) : Prop := ∃ e, es[j]? = some e ∧ x = e.key ∧ y = e.val
def IW (hb : Heap) (d D : Addr) (es : Array DictEntry) (ep : Nat) (i : Nat) (vs : List Value) (h : Heap) : Prop :=
  (∀ b o, hb.get? b = some o → h.get? b = some o) ∧ D + 1 < h.objs.size ∧ PySem.W.KdxSt h (D + 1) d D i es.size ep ∧ DT.Raw h d es ep ∧ ∃ as, vs = as.map Value.ref ∧ MadeP (D + 1) i (EntP es) h as
def IZ (hb : Heap) (D : Addr) (es : Array DictEntry) (vs : List Value) (h : Heap) : Prop :=
  (∀ b o, hb.get? b = some o → h.get? b = some o) ∧ ∃ as, vs = as.map Value.ref ∧ MadeP (D + 1) es.size (EntP es) h as
theorem itemsFeed {hb : Heap} {d : Addr} {es : Array DictEntry} {ep : Nat} (ld : d < hb.objs.size) (A : Around) (hh : A.handled = none) : Grow.Feed prog w A (hb.objs.size + 1) hb.objs.size es.size (IW hb d hb.objs.size es ep) (IZ hb hb.objs.size es) where
  stay := fun i vs h h' st k hs => by
    obtain ⟨h0, hD, hst, hm, as, e, g⟩ := st
    refine ⟨fun b o e0 => k b o (Nat.ne_of_lt (Heap.lt_size e0)) (h0 b o e0), Nat.lt_of_lt_of_le hD hs, hst.keep k (Nat.succ_ne_self _), hm.at' fun o e => k d o (Nat.ne_of_lt ld) e, as, e, g.mono (fun b o hb e0 => k b o (Nat.ne_of_gt (Nat.lt_trans (Nat.lt_succ_self _) hb)) e0) hs⟩
  item := fun s i vs o Q E hi st hd hQ => by
    obtain ⟨h0, hD, hst, hm, as, e, g⟩ := st
    refine DT.nxtI hst (Heap.lt_size hd) hm hi fun h' hst' ht hz hk => ?_
    have nI : ∀ {b : Addr} {o : Obj}, hb.get? b = some o → b ≠ hb.objs.size + 1 := fun {b o} e => Nat.ne_of_lt (Nat.lt_succ_of_lt (Heap.lt_size e))
    exact hQ _ _ s.toks ⟨fun b o e0 => hk b o (nI e0) (h0 b o e0), by rw [hz]; exact Nat.lt_succ_of_lt hD, hst', hm.at' fun o e => hk d o (Nat.ne_of_lt (Nat.lt_succ_of_lt ld)) e, as ++ [s.heap.objs.size], by rw [e, List.map_append]; rfl,
      g.snoc hD (fun b o hb e0 => hk b o (Nat.ne_of_gt hb) e0) hz ⟨es[i], Array.getElem?_eq_getElem hi, rfl, rfl⟩ ht⟩ (hk _ o (Nat.ne_of_lt (Nat.lt_succ_self _)) hd)
  done := fun s vs o Q E st hd hQ => by
    obtain ⟨h0, hD, hst, hm, as, e, g⟩ := st
    refine DT.finI hh hst hm (Nat.le_refl _) fun h' hk => ?_
    have nI : ∀ {b : Addr} {o : Obj}, hb.get? b = some o → b ≠ hb.objs.size + 1 := fun {b o} e => Nat.ne_of_lt (Nat.lt_succ_of_lt (Heap.lt_size e))
    refine hQ h' s.toks ⟨fun b o e0 => hk b o (nI e0) (h0 b o e0), as, e, g.len, g.nod, fun a ha => ?_, fun j a hj => ?_⟩ (hk _ o (Nat.ne_of_lt (Nat.lt_succ_self _)) hd)
    · obtain ⟨j, hj⟩ := List.mem_iff_getElem?.mp ha
      obtain ⟨x, y, _, et⟩ := g.at' j a hj
      have hb := (g.above a ha).1
      exact ⟨hb, Heap.lt_size (hk a _ (Nat.ne_of_gt hb) et)⟩
    · obtain ⟨x, y, p, et⟩ := g.at' j a hj
      exact ⟨x, y, p, hk a _ (Nat.ne_of_gt (g.above a (List.mem_of_getElem? hj)).1) et⟩
theorem itemsGiven {h0 : Heap} {v d : Addr} {es : Array DictEntry} {ep : Nat} (hv : h0.IsItemsView v d) (hm : DT.Raw h0 d es ep) :
    Grow.Given prog w "dict_items" v (h0.objs.size + 1) h0.objs.size es.size (IW h0 d h0.objs.size es ep) (IZ h0 h0.objs.size es) h0 where
  notL := by decide
  notT := by decide
  ne := let ⟨_, e, _⟩ := hv; Nat.ne_of_gt (Heap.lt_size e)
  type := fun s k => let ⟨o, e, c, _⟩ := hv; ⟨o, k _ _ e, c⟩
  hint := fun A E s Q k h => PySem.W.kdx_hint (let ⟨o, e, c, _⟩ := hv; ⟨o, k _ _ e, c⟩) (h false)
  iter := fun A E s o Q k hs hd h => by
    have hv' : s.heap.IsItemsView v d := let ⟨o, e, c⟩ := hv; ⟨o, k _ _ e, c⟩
    have hm' : DT.Raw s.heap d es ep := hm.at' fun o e => k d o e
    refine DT.iterI hv' hm' ?_
    have e1 : s.heap.objs.size = h0.objs.size + 1 := hs
    have e2 := h (s.heap.push { cls := .type "dict_itemiterator", data := .fields #[.none, .bool false, .ref d, .int 0 0, .int es.size 0, .int ep 0, .none, .none] })
      ⟨fun b o e => Heap.get?_push_of_some _ (k b o e), by rw [Heap.size_push, hs]; exact Nat.lt_succ_self _, .inl ⟨rfl, .none, .none, by rw [← hs]; exact Heap.get?_push_size _ rfl⟩, hm'.push _, [], rfl, .nil⟩ (Heap.get?_push_of_some _ hd) fun b o e => Heap.get?_push_of_some _ (k b o e)
    rw [e1]
    exact e2
  feed := fun A hh => itemsFeed hm.lt A hh
end
section
variable {X : Cx} {T : Tz} {e : Expr} {te : TQ} {p apos cpos pos : Pos}
/-- list(d.items()) -/
def qItems (m : Bool) (te : TQ) : TQ := fun s A P => te s A fun d A1 => okQ (entD A1 d) fun kvs => newL m (kvs.map fun p => .tup [p.1, p.2]) A1 P
theorem entRows {K : PySem.W.Frag} {F : Hp} : ∀ {ps : List (V × V)} {ds : List (D × D)}, RepK K F ps ds → Rows K F (ps.map fun p => [p.1, p.2]) (ds.map fun p => [p.1, p.2])
  | _, _, .nil => .nil
  | _, _, .cons a b t => .cons (.cons a (.cons b .nil)) (entRows t)
theorem entVals : ∀ {ps : List (V × V)} {es : List DictEntry}, Paired (fun (p : V × V) (e : DictEntry) => RelV p.1 e.key ∧ RelV p.2 e.val) ps es → Paired Vals (ps.map fun p => [p.1, p.2]) (es.map fun e => [e.key, e.val])
  | _, _, .nil => .nil
  | _, _, .cons a t => .cons (.cons a.1 (.cons a.2 .nil)) (entVals t)
theorem pq_items (m : Bool) (hc : X.calm = true) (he : PQ X T e te) (hm : X.mg "list" = none) (hg : Gl X "list" := by rfl) (hv : bootBuiltins "list" = some (.type "list") := by decide +kernel)
    (hbase : attributeBase e "items" X.env (eval e X.env) = eval e X.env := by rfl) (hline : (apos.endLine == cpos.line) = true := by rfl)
    (hs : starEach [.Call (.Attribute e "items" apos) [] [] cpos] X.env = (false, eval (.Call (.Attribute e "items" apos) [] [] cpos) X.env) :: starEach [] X.env := by rfl) :
    PQ X T (.Call (.Name "list" p) [.Call (.Attribute e "items" apos) [] [] cpos] [] pos) (qItems m te) := ⟨⟨fun pins s σ H Q I h => by
  obtain ⟨F, A, sl, hsl, hR, P, ht, k⟩ := h
  refine wpAny_Call_Name_kw (ld_blt I hg hm hv ?_)
  refine PyProof.Rows.callWith_type1 ?_ hs rfl
  rw [hs]
  show wpAny _ _ (spliced ((false, eval (.Call (.Attribute e "items" apos) [] [] cpos) X.env) :: backTo pos (starEach [] X.env))) _ _ s
  refine Calls.spliced_cons ?_
  refine wpAny_Call_method (T := "dict") (id := "dict.items") hbase rfl hline PySem.F.plainAttrs_dict PySem.F.slot_dict_items PySem.F.type_dict_items (thn (he.pe.run pins s σ H (fun v H1 => ∃ F1 A1 d, Rep X.K F1 v d ∧ Go X.K T F A H F1 A1 H1 ∧ okQ (entD A1 d) fun kvs => newL m (kvs.map fun p => .tup [p.1, p.2]) A1 P) I
    ⟨F, A, sl, hsl, hR, _, ht, fun d A1 v H1 F1 p1 g1 r1 => ⟨F1, A1, d, r1, g1, p1⟩⟩) fun u s1 ⟨v, H1, I1, ru, F1, A1, d, rv, g1, p1⟩ => ?_)
  cases ex : entD A1 d with
  | none => rw [ex] at p1; exact p1.elim
  | some kvs =>
    rw [ex] at p1
    simp only [okQ_some] at p1
    obtain ⟨a, ps, rfl, hx, hxr⟩ := ent_rep I1 g1.rs rv ex
    obtain rfl : u = Value.ref a := ru
    obtain ⟨lo, hz, o, es, ep, e1, e2, e3, e4, e5⟩ := hx
    refine ⟨⟨o, e1, e2.1⟩, fun b q => ?_, Calls.callWith_builtin rfl (PySem.evalArgs_none (DT.callItems (es := es) (ep := ep) lo ⟨o, e1, e2, e3⟩ ?_))⟩
    · cases q; exact ⟨o, e1, e2.2.1⟩
    refine Calls.spliced_nil ?_
    have hm0 : DT.Raw (s1.heap.push { cls := .type "dict_items", data := .fields #[.ref a] }) a es ep := DT.Raw.push (h := s1.heap) ⟨o, e1, e2, e3⟩ _
    have hv0 : (s1.heap.push { cls := .type "dict_items", data := .fields #[.ref a] }).IsItemsView s1.heap.objs.size a := ⟨_, Heap.get?_push_size _ rfl, rfl, rfl⟩
    have e6 : es.size ≤ sizeLine := by rw [e4]; exact hz
    refine Grow.calls (hn := e6) (I1.ok.hd hc) (itemsGiven hv0 hm0) fun h2 tk vs2 c hw hl hd => ?_
    obtain ⟨kk, as, eas, g⟩ := hw
    subst eas
    have sz : (s1.heap.push { cls := .type "dict_items", data := .fields #[.ref a] }).objs.size = s1.heap.objs.size + 1 := Heap.size_push _ _
    have hle : s1.heap.objs.size ≤ (s1.heap.push { cls := .type "dict_items", data := .fields #[.ref a] }).objs.size := by rw [sz]; exact Nat.le_succ _
    have hl2 : as.length = (ps.map fun p => [p.1, p.2]).length := by rw [List.length_map, g.len, e4]
    have ab : ∀ b ∈ as, s1.heap.objs.size ≤ b := fun b hb => Nat.le_trans hle (Nat.le_of_lt (Nat.lt_trans (Nat.lt_succ_self _) (g.above b hb).1))
    have nD : (s1.heap.push { cls := .type "dict_items", data := .fields #[.ref a] }).objs.size ∉ as := fun z => absurd (Nat.lt_trans (Nat.lt_succ_self _) (g.above _ z).1) (Nat.lt_irrefl _)
    have I2 := inv_rows (tk := tk) (vs := ps.map fun p => [p.1, p.2]) (us := es.toList.map fun e => [e.key, e.val]) I1 (fun b o e => kk b o (Heap.get?_push_of_some _ e)) hle hd (by rw [g.len]; exact e6) hl2 g.nod ab nD (entVals e5) (fun v hv => by
            obtain ⟨q, _, rfl⟩ := List.mem_map.mp hv
            rw [sizeLine_eq]; simp) (fun j a u hj hu => by
            obtain ⟨x1, y1, ⟨en, f1, rfl, rfl⟩, f4⟩ := g.at' j a hj
            rw [List.getElem?_map, Array.getElem?_toList, f1] at hu
            obtain rfl : [en.key, en.val] = u := by simpa using hu
            exact f4)
    refine ⟨.ref _, _, I2, rfl, ?_⟩
    exact newLP_ok (ds := kvs.map fun p => [p.1, p.2]) g1.rs (by rw [List.map_map]; exact p1) (entRows hxr) hl2 g.nod (fun b hb => I1.hok.fresh (ab b hb)) (I1.hok.fresh hle) nD fun d A' v H' F' p g r => k _ _ _ _ _ p (g1.trans g) r⟩⟩
end
end Qd


set_option Elab.async false
set_option linter.all false
set_option maxRecDepth 100000
set_option maxHeartbeats 4000000
/-! Second layer, part J: ranges, zip, enumerate walked; methods; targets. -/
namespace Qd
open PySem L2

section
variable {X : Cx} {T : Tz} {tg e a b : Expr} {te ta tb : TQ} {t : TAQ} {pos p : Pos}
/-! ### ranges -/
def smallI (j : Int) : Prop := -1000000 ≤ j ∧ j ≤ 1000000
def qRng1 (t : TAQ) : TAQ := fun s A P => t s A fun ds A1 => match ds with | [.int j] => smallI j ∧ P (rngD 0 j.toNat) A1 | _ => False
def qRng2 (t : TAQ) : TAQ := fun s A P => t s A fun ds A1 => match ds with | [.int i, .int j] => smallI i ∧ smallI j ∧ P (rngD i (j - i).toNat) A1 | _ => False
theorem smallI.bd {j : Int} (h : smallI j) : -(2 ^ 62) ≤ j ∧ j < 2 ^ 62 := by unfold smallI at h; omega
theorem piq_rng1 (hm : X.mg "range" = none) (ha : PAQ X T [a] t) (hg : Gl X "range" := by rfl) (hs : starEach [a] X.env = [(false, eval a X.env)] := by rfl) : PIQ X T tg (.Call (.Name "range" p) [a] [] pos) (qRng1 t) := ⟨⟨fun pins s σ H R I h => by
  obtain ⟨F, A, sl, hsl, hR, P, ht, k⟩ := h
  refine (pi_range1 hg hm ha.pa hs).run pins s σ H R I ⟨F, A, sl, hsl, hR, _, ht, fun ds A1 vs H1 F1 p1 g1 r1 => ?_⟩
  split at p1
  · rename_i j
    obtain ⟨v, rfl, rv⟩ := reps1 r1
    exact ⟨j, by rw [rv.int_inv], p1.1.bd.1, p1.1.bd.2, k _ _ _ _ _ p1.2 g1 Src.rng⟩
  · exact p1.elim⟩⟩
theorem piq_rng2 (hm : X.mg "range" = none) (ha : PAQ X T [a, b] t) (hg : Gl X "range" := by rfl) (hs : starEach [a, b] X.env = [(false, eval a X.env), (false, eval b X.env)] := by rfl) (hs2 : starEach [b] X.env = [(false, eval b X.env)] := by rfl) : PIQ X T tg (.Call (.Name "range" p) [a, b] [] pos) (qRng2 t) := ⟨⟨fun pins s σ H R I h => by
  obtain ⟨F, A, sl, hsl, hR, P, ht, k⟩ := h
  refine (pi_range2 hg hm ha.pa hs hs2).run pins s σ H R I ⟨F, A, sl, hsl, hR, _, ht, fun ds A1 vs H1 F1 p1 g1 r1 => ?_⟩
  split at p1
  · rename_i i j
    obtain ⟨v, w, rfl, rv, rw⟩ := reps2 r1
    exact ⟨i, j, by rw [rv.int_inv, rw.int_inv], ⟨p1.1.bd.1, p1.1.bd.2, p1.2.1.bd.1, p1.2.1.bd.2⟩, k _ _ _ _ _ p1.2.2 g1 Src.rng⟩
  · exact p1.elim⟩⟩
theorem rgV_rep {K : PySem.W.Frag} {F : Hp} (a b : Int) : Reps K F (rgV a b) (rngD a (b - a).toNat) := by
  unfold rgV rngD
  have go : ∀ l : List Nat, Reps K F (l.map fun i => V.int (a + (i : Nat))) (l.map fun i => D.int (a + (i : Nat))) := fun l => by
    induction l with
    | nil => exact .nil
    | cons x r ih => exact .cons (.int _) ih
  exact go _
theorem RgOk.of {i j : Int} (h1 : smallI i) (h2 : smallI j) : RgOk i j := by unfold smallI at *; exact ⟨by omega, by omega, by omega, by omega, by omega⟩
/-- list(range(n)), list(range(i, j)) -/
def qLrg1 (m : Bool) (ta : TQ) : TQ := fun s A P => ta s A fun d A1 => match d with | .int j => smallI j ∧ newL m (rngD 0 j.toNat) A1 P | _ => False
def qLrg2 (m : Bool) (ta tb : TQ) : TQ := fun s A P => ta s A fun d A1 => tb s A1 fun e A2 => match d, e with | .int i, .int j => smallI i ∧ smallI j ∧ newL m (rngD i (j - i).toNat) A2 P | _, _ => False
theorem pq_lrg1 (m : Bool) {p1 pos1 : Pos} (hc : X.calm = true) (hm : X.mg "list" = none) (hm2 : X.mg "range" = none) (ha : PQ X T a ta) (hg : Gl X "list" := by rfl) (hg2 : Gl X "range" := by rfl) (na : starEach [a] X.env = (false, eval a X.env) :: starEach [] X.env := by rfl)
    (nb : starEach [.Call (.Name "range" p1) [a] [] pos1] X.env = (false, eval (.Call (.Name "range" p1) [a] [] pos1) X.env) :: starEach [] X.env := by rfl) : PQ X T (.Call (.Name "list" p) [.Call (.Name "range" p1) [a] [] pos1] [] pos) (qLrg1 m ta) :=
  ⟨(pe_listRg hc hg hm (prg_1 hg2 hm2 ha.pe na) nb).wk fun σ H Q h => by
    obtain ⟨F, A, s, hs, hR, P, ht, k⟩ := h
    refine ⟨F, A, s, hs, hR, _, ht, fun d A1 v H1 F1 p1 g1 r1 => ?_⟩
    split at p1
    · rename_i j
      refine ⟨j, r1.int_inv, RgOk.of (by unfold smallI; omega) p1.1, fun q hq => ?_⟩
      have rr := rgV_rep (K := X.K) (F := F1) 0 j
      rw [Int.sub_zero] at rr
      exact newL_ok g1.rs p1.2 rr hq fun d A' v H' F' p g r => k _ _ _ _ _ p (g1.trans g) r
    · exact p1.elim⟩
theorem pq_lrg2 (m : Bool) {p1 pos1 : Pos} (hc : X.calm = true) (hm : X.mg "list" = none) (hm2 : X.mg "range" = none) (ha : PQ X T a ta) (hb : PQ X T b tb) (hg : Gl X "list" := by rfl) (hg2 : Gl X "range" := by rfl) (na : starEach [a, b] X.env = (false, eval a X.env) :: starEach [b] X.env := by rfl) (na2 : starEach [b] X.env = (false, eval b X.env) :: starEach [] X.env := by rfl) (hpl : (backTo pos1 (starEach [b] X.env)).any (·.1) = false := by rfl)
    (nb : starEach [.Call (.Name "range" p1) [a, b] [] pos1] X.env = (false, eval (.Call (.Name "range" p1) [a, b] [] pos1) X.env) :: starEach [] X.env := by rfl) : PQ X T (.Call (.Name "list" p) [.Call (.Name "range" p1) [a, b] [] pos1] [] pos) (qLrg2 m ta tb) :=
  ⟨(pe_listRg hc hg hm (prg_2 hg2 hm2 ha.pe hb.pe na na2 hpl) nb).wk fun σ H Q h => by
    obtain ⟨F, A, s, hs, hR, P, ht, k⟩ := h
    refine ⟨F, A, s, hs, hR, _, ht, fun d A1 v H1 F1 p1 g1 r1 => ?_⟩
    refine ⟨F1, A1, s, hs.mono g1.ext, g1.rs, _, p1, fun e A2 w H2 F2 p2 g2 r2 => ?_⟩
    split at p2
    · rename_i i j
      refine ⟨i, j, r1.int_inv, r2.int_inv, RgOk.of p2.1 p2.2.1, fun q hq => ?_⟩
      exact newL_ok g2.rs p2.2.2 (rgV_rep i j) hq fun d A' v H' F' p g r => k _ _ _ _ _ p ((g1.trans g2).trans g) r
    · exact p2.elim⟩

/-! ### zip, enumerate -/
/-- both lists, or both tuples, frozen -/
def froL : D → Option (List D)
  | .lst xs => some xs | .frl xs => some xs
  | _ => none
def zipD : D → D → Option (List D × List D)
  | .tup xs, .tup ys => some (xs, ys)
  | x, y => match froL x, froL y with | some xs, some ys => some (xs, ys) | _, _ => none
def qZip (t : TAQ) : TAQ := fun s A P => t s A fun ds A1 => match ds with | [x, y] => okQ (zipD x y) fun p => P (pairL p.1 p.2) A1 | _ => False
theorem froL_rep {K : PySem.W.Frag} {F : Hp} {v : V} {d : D} {xs : List D} (r : Rep K F v d) (h : froL d = some xs) : ∃ a vs, v = .ref a ∧ SqL K F a vs ∧ Reps K F vs xs := by
  cases r with
  | lst h1 h2 => simp only [froL, Option.some.injEq] at h; subst h; exact ⟨_, _, rfl, .of h1, h2⟩
  | frl h1 h2 => simp only [froL, Option.some.injEq] at h; subst h; exact ⟨_, _, rfl, h1, h2⟩
  | _ => simp [froL] at h
theorem pairL_get {xs ys : List D} {i : Nat} {x y : D} (h1 : xs[i]? = some x) (h2 : ys[i]? = some y) : (pairL xs ys)[i]? = some (.tup [x, y]) := by
  unfold pairL
  rw [List.getElem?_map, List.getElem?_zip_eq_some (z := (x, y)) |>.mpr ⟨h1, h2⟩]
  rfl
theorem pairL_length (xs ys : List D) : (pairL xs ys).length = min xs.length ys.length := by simp [pairL]
theorem Src.zip {K : PySem.W.Frag} {a b : Addr} {vs ws : List V} {xs ys : List D} {F0 : Hp} (h : SqL K F0 a vs) (h2 : SqL K F0 b ws) (r : Reps K F0 vs xs) (r2 : Reps K F0 ws ys) : Src K T (Itz K a b) F0 (pairL xs ys) :=
  ⟨fun i F A H hi R e => by
    rw [pairL_length] at hi
    obtain ⟨v, h3, _⟩ := r.get (i := i) (List.getElem?_eq_getElem (by omega))
    obtain ⟨w, h4, _⟩ := r2.get (i := i) (List.getElem?_eq_getElem (by omega))
    exact ⟨vs, ws, v, w, (e.trans R.sub).seq h, (e.trans R.sub).seq h2, h3, h4⟩,
  fun i F A H hi R e => by
    rw [pairL_length] at hi
    exact ⟨vs, ws, (e.trans R.sub).seq h, (e.trans R.sub).seq h2, by rw [r.length, r2.length]; omega⟩,
  fun i F A H x H' hl y R e => by
    obtain ⟨t, v, w, rfl, hn, rfl, h3, h4⟩ := y
    obtain ⟨d, h5, h6⟩ := r.getV (h3 vs ((e.trans R.sub).seq h))
    obtain ⟨c, h7, h8⟩ := r2.getV (h4 ws ((e.trans R.sub).seq h2))
    have g := R.goF (u := .tup [v, w]) hn trivial
    exact ⟨_, _, pairL_get h5 h7, g, .tup (.of upd_same) (.cons ((h6.mono e).mono g.ext) (.cons ((h8.mono e).mono g.ext) .nil))⟩⟩
theorem Src.zipT {K : PySem.W.Frag} {a b : Addr} {vs ws : List V} {xs ys : List D} {F0 : Hp} (h : SqT K F0 a vs) (h2 : SqT K F0 b ws) (r : Reps K F0 vs xs) (r2 : Reps K F0 ws ys) : Src K T (RZ.ItzT K a b) F0 (pairL xs ys) :=
  ⟨fun i F A H hi R e => by
    rw [pairL_length] at hi
    obtain ⟨v, h3, _⟩ := r.get (i := i) (List.getElem?_eq_getElem (by omega))
    obtain ⟨w, h4, _⟩ := r2.get (i := i) (List.getElem?_eq_getElem (by omega))
    exact ⟨vs, ws, v, w, sqT_mono (e.trans R.sub) h, sqT_mono (e.trans R.sub) h2, h3, h4⟩,
  fun i F A H hi R e => by
    rw [pairL_length] at hi
    exact ⟨vs, ws, sqT_mono (e.trans R.sub) h, sqT_mono (e.trans R.sub) h2, by rw [r.length, r2.length]; omega⟩,
  fun i F A H x H' hl y R e => by
    obtain ⟨t, v, w, rfl, hn, rfl, h3, h4⟩ := y
    obtain ⟨d, h5, h6⟩ := r.getV (h3 vs (sqT_mono (e.trans R.sub) h))
    obtain ⟨c, h7, h8⟩ := r2.getV (h4 ws (sqT_mono (e.trans R.sub) h2))
    have g := R.goF (u := .tup [v, w]) hn trivial
    exact ⟨_, _, pairL_get h5 h7, g, .tup (.of upd_same) (.cons ((h6.mono e).mono g.ext) (.cons ((h8.mono e).mono g.ext) .nil))⟩⟩
theorem piq_zip {elts : List Expr} {kk : Nat} {tpos : Pos} (hm : X.mg "zip" = none) (ha : PAQ X T [a, b] t) (hg : Gl X "zip" := by rfl) (hs : starEach [a, b] X.env = (false, eval a X.env) :: starEach [b] X.env := by rfl) (hpl : (backTo pos (starEach [b] X.env)).any (·.1) = false := by rfl) :
    PIQ X T (.Tuple elts kk tpos) (.Call (.Name "zip" p) [a, b] [] pos) (qZip t) := ⟨⟨fun pins s σ H R I h => by
  obtain ⟨F, A, sl, hsl, hR, P, ht, k⟩ := h
  refine (RZ.pi_zipA hg hm ha.pa hs hpl).run pins s σ H R I ⟨F, A, sl, hsl, hR, _, ht, fun ds A1 vs H1 F1 p1 g1 r1 => ?_⟩
  split at p1
  · rename_i x y
    obtain ⟨v, w, rfl, rx, ry⟩ := reps2 r1
    cases e : zipD x y with
    | none => rw [e] at p1; exact p1.elim
    | some q =>
      rw [e] at p1
      unfold zipD at e
      split at e
      · cases e
        cases rx with
        | tup h1 h2 => cases ry with
          | tup h3 h4 => exact ⟨_, _, _, _, rfl, .inr ⟨sqT_mono g1.rs.sub h1, sqT_mono g1.rs.sub h3, k _ _ _ _ _ p1 g1 (Src.zipT h1 h3 h2 h4)⟩⟩
      · split at e
        · rename_i h1 h2
          cases e
          obtain ⟨a, vs, rfl, h3, h4⟩ := froL_rep rx h1
          obtain ⟨b, ws, rfl, h5, h6⟩ := froL_rep ry h2
          exact ⟨_, _, _, _, rfl, .inl ⟨g1.rs.sub.seq h3, g1.rs.sub.seq h5, k _ _ _ _ _ p1 g1 (Src.zip h3 h5 h4 h6)⟩⟩
        · cases e
  · exact p1.elim⟩⟩

/-! ### methods of lists that may change -/
variable {o : Expr} {to : TQ} {apos cpos : Pos}
/-- a method over data: the object, the arguments -/
abbrev RMQ := D → List D → MH → KQ → Prop
def liftM (K : PySem.W.Frag) (T : Tz) (r : RMQ) : V → List V → Hp → VK → Prop := fun v vs H Q => ∃ F A d ds, Rep K F v d ∧ Reps K F vs ds ∧ RS K T F A H ∧ ∃ P : KQ, r d ds A P ∧ ∀ d A' v H' F', P d A' → Go K T F A H F' A' H' → Rep K F' v d → Q v H'
def qMeth (r : RMQ) (to : TQ) (t : TAQ) : TQ := fun s A P => to s A fun x A1 => isLm A1 x ∧ t s A1 fun xs A2 => r x xs A2 P
where isLm (A : MH) : D → Prop
  | .mut a => ∃ xs, A a = some (.lst xs)
  | _ => False
theorem isLm_ty {K : PySem.W.Frag} {F H : Hp} {A : MH} {v : V} {d : D} (R : RS K T F A H) (r : Rep K F v d) (h : qMeth.isLm A d) : tyV K "list" v H := by
  cases d with
  | «mut» a =>
    obtain ⟨xs, e⟩ := h
    obtain rfl := r.mut_inv
    obtain ⟨vs, h1, _⟩ := (R.mem a _ e).2
    exact .inl ⟨rfl, vs, .of h1⟩
  | _ => exact h.elim
def rAppQ : RMQ := fun x ys A P => match x, ys with
  | .mut a, [y] => match A a with | some (.lst xs) => xs.length < 100000 ∧ P .non (A.set a (.lst (xs ++ [y]))) | _ => False
  | _, _ => False
def rPopQ : RMQ := fun x ys A P => match x, ys with
  | .mut a, [.int i] => match A a with | some (.lst xs) => 0 ≤ i ∧ i < 100000 ∧ okQ (xs[i.toNat]?) fun y => P y (A.set a (.lst (xs.eraseIdx i.toNat))) | _ => False
  | _, _ => False
theorem mq_append : MtR X "list.append" (liftM X.K T rAppQ) := fun pins s σ H x xs v us Q I rx rxs h => by
  obtain ⟨F, A, d, ds, r1, r2, R, P, h1, k⟩ := h
  unfold rAppQ at h1
  split at h1
  · rename_i a y
    split at h1
    · rename_i ys e
      obtain rfl := r1.mut_inv
      obtain ⟨w, rfl, rw⟩ := reps1 r2
      obtain ⟨vs, h2, h3⟩ := (R.mem a _ e).2
      have g := R.goW (u := .lst (vs ++ [w])) (m := .lst (ys ++ [y])) e ⟨_, upd_same, h3.append (.cons rw .nil)⟩
      exact mt_append pins s σ H _ _ v us Q I rx rxs ⟨a, vs, w, rfl, rfl, h2, by rw [h3.length]; exact Evl.sz_lt h1.1, k _ _ _ _ _ h1.2 g .non⟩
    · exact h1.elim
  · exact h1.elim
theorem mq_pop : MtR X "list.pop" (liftM X.K T rPopQ) := fun pins s σ H x xs v us Q I rx rxs h => by
  obtain ⟨F, A, d, ds, r1, r2, R, P, h1, k⟩ := h
  unfold rPopQ at h1
  split at h1
  · rename_i a i
    split at h1
    · rename_i ys e
      obtain ⟨hi, hi2, h1⟩ := h1
      cases ey : ys[i.toNat]? with
      | none => rw [ey] at h1; exact h1.elim
      | some y =>
        rw [ey] at h1
        obtain rfl := r1.mut_inv
        obtain ⟨w, rfl, rw⟩ := reps1 r2
        obtain rfl := rw.int_inv
        obtain ⟨vs, h2, h3⟩ := (R.mem a _ e).2
        obtain ⟨z, h4, h5⟩ := h3.get ey
        have g := R.goW (u := .lst (vs.eraseIdx i.toNat)) (m := .lst (ys.eraseIdx i.toNat)) e ⟨_, upd_same, h3.eraseIdx _⟩
        have hl := (List.getElem?_eq_some_iff.mp h4).1
        refine mt_popAt pins s σ H _ _ v us Q I rx rxs ⟨a, vs, i, i.toNat, z, rfl, rfl, h2, by omega, by omega, ?_, h4, k _ _ _ _ _ h1 g (h5.mono g.ext)⟩
        exact seqIndex_of hi (by omega)
    · exact h1.elim
  · exact h1.elim
theorem lift_meth {K : PySem.W.Frag} {r : RMQ} {t : TAQ} {σ : St} {H : Hp} {Q : VK} (h : lift K T (qMeth r to t) σ H Q) : tBM K "list" (liftM K T r) (lift K T to) (liftA K T t) σ H Q := by
  obtain ⟨F, A, s, hs, hR, P, ht, k⟩ := h
  refine ⟨F, A, s, hs, hR, _, ht, fun x A1 v H1 F1 p1 g1 r1 => ⟨isLm_ty g1.rs r1 p1.1, ?_⟩⟩
  exact ⟨F1, A1, s, hs.mono g1.ext, g1.rs, _, p1.2, fun ds A2 vs H2 F2 p2 g2 r2 => ⟨F2, A2, x, ds, r1.mono g2.ext, r2, g2.rs, P, p2, fun d A' v H' F' p g r => k _ _ _ _ _ p ((g1.trans g2).trans g) r⟩⟩
theorem pq_append (ho : PQ X T o to) (ha : PAQ X T [e] t) (hbase : attributeBase o "append" X.env (eval o X.env) = eval o X.env := by rfl)
    (hfew : ((backTo cpos (starEach [e] X.env)).all (fun x => !x.1) && (backToKw cpos (keywordEach [] X.env)).all (fun x => x.1.isSome) && decide ([e].length + ([] : List Keyword).length + (if ([] : List Keyword).isEmpty then 0 else 1) < 30)) = true := by rfl)
    (hline : (apos.endLine == cpos.line) = true := by rfl) (hs : starEach [e] X.env = (false, eval e X.env) :: starEach [] X.env := by rfl) : PQ X T (.Call (.Attribute o "append" apos) [e] [] cpos) (qMeth rAppQ to t) :=
  ⟨(pe_bm PySem.F.plainAttrs_list PySem.F.slot_list_append PySem.F.type_list_append mq_append ho.pe ha.pa hbase hfew hline hs rfl).wk fun _ _ _ h => lift_meth h⟩
theorem pq_pop (ho : PQ X T o to) (ha : PAQ X T [e] t) (hbase : attributeBase o "pop" X.env (eval o X.env) = eval o X.env := by rfl)
    (hfew : ((backTo cpos (starEach [e] X.env)).all (fun x => !x.1) && (backToKw cpos (keywordEach [] X.env)).all (fun x => x.1.isSome) && decide ([e].length + ([] : List Keyword).length + (if ([] : List Keyword).isEmpty then 0 else 1) < 30)) = true := by rfl)
    (hline : (apos.endLine == cpos.line) = true := by rfl) (hs : starEach [e] X.env = (false, eval e X.env) :: starEach [] X.env := by rfl) : PQ X T (.Call (.Attribute o "pop" apos) [e] [] cpos) (qMeth rPopQ to t) :=
  ⟨(pe_bm PySem.F.plainAttrs_list PySem.F.slot_list_pop PySem.F.type_list_pop mq_pop ho.pe ha.pa hbase hfew hline hs rfl).wk fun _ _ _ h => lift_meth h⟩
end
end Qd


set_option Elab.async false
set_option linter.all false
set_option maxRecDepth 100000
set_option maxHeartbeats 4000000
/-! Second layer, part K: targets of any form; dicts with tuple keys. -/
namespace Qd
open PySem L2

/-! ### targets over data -/
abbrev TGQ := D → SQ → MH → (SQ → MH → Prop) → Prop
abbrev TGsQ := List D → SQ → MH → (SQ → MH → Prop) → Prop
section
variable (K : PySem.W.Frag) (T : Tz)
def liftG (g : TGQ) : TG := fun v σ H Q => ∃ F A s d, Rs K F s σ ∧ RS K T F A H ∧ Rep K F v d ∧ ∃ P : SQ → MH → Prop, g d s A P ∧ ∀ s' A' σ' H' F', P s' A' → Go K T F A H F' A' H' → Rs K F' s' σ' → Q σ' H'
def liftGs (g : TGsQ) : TGs := fun vs σ H Q => ∃ F A s ds, Rs K F s σ ∧ RS K T F A H ∧ Reps K F vs ds ∧ ∃ P : SQ → MH → Prop, g ds s A P ∧ ∀ s' A' σ' H' F', P s' A' → Go K T F A H F' A' H' → Rs K F' s' σ' → Q σ' H'
end
structure PTG (X : Cx) (T : Tz) (tg : Expr) (g : TGQ) : Prop where
  pg : PG X tg (liftG X.K T g)
structure PTGs (X : Cx) (T : Tz) (tg : List Expr) (g : TGsQ) : Prop where
  pg : PGs X tg (liftGs X.K T g)
theorem _root_.L2.PG.wk {X : Cx} {e : Expr} {t u : TG} (h : PG X e t) (w : ∀ v σ H Q, u v σ H Q → t v σ H Q) : PG X e u := ⟨fun pins s σ H v uu Q I r q => h.run pins s σ H v uu Q I r (w _ _ _ _ q)⟩
theorem _root_.L2.PGs.wk {X : Cx} {e : List Expr} {t u : TGs} (h : PGs X e t) (w : ∀ v σ H Q, u v σ H Q → t v σ H Q) : PGs X e u := ⟨fun pins s σ H v uu Q I r q => h.run pins s σ H v uu Q I r (w _ _ _ _ q)⟩
section
variable {X : Cx} {T : Tz} {tg o i e : Expr} {to ti te : TQ} {g : TGQ} {t : TAQ} {pos : Pos}
/-- a plain target -/
def gPl (t : Tgt) : TGQ := fun d s A P => okQ (tset t d s) fun s' => P s' A
theorem ptg_pl {t : Tgt} (h : PGQ X tg t) : PTG X T tg (gPl t) := ⟨h.pg.wk fun v σ H Q h => by
  obtain ⟨F, A, s, d, hs, hR, hr, P, ht, k⟩ := h
  unfold gPl at ht
  cases e : tset t d s with
  | none => rw [e] at ht; exact ht.elim
  | some s' =>
    rw [e] at ht
    exact tg_ok hR t hs hr e fun σ' h1 _ => k _ _ _ _ _ ht hR.go h1⟩
def gNilQ : TGsQ := fun ds s A P => ds = [] ∧ P s A
def gConsQ (g : TGQ) (gs : TGsQ) : TGsQ := fun ds s A P => match ds with | d :: r => g d s A fun s1 A1 => gs r s1 A1 P | [] => False
theorem ptgs_nil : PTGs X T [] gNilQ := ⟨pgs_nil.wk fun v σ H Q h => by
  obtain ⟨F, A, s, d, hs, hR, hr, P, ⟨rfl, ht⟩, k⟩ := h
  cases hr
  exact ⟨rfl, k _ _ _ _ _ ht hR.go hs⟩⟩
theorem ptgs_cons {tgs : List Expr} {gs : TGsQ} (h : PTG X T tg g) (hs : PTGs X T tgs gs) (ha : (assignEach (tg :: tgs) X.env).map (·.2) = assign tg X.env :: (assignEach tgs X.env).map (·.2) := by rfl) : PTGs X T (tg :: tgs) (gConsQ g gs) := ⟨(pgs_cons h.pg hs.pg ha).wk fun v σ H Q h => by
  obtain ⟨F, A, s, ds, hs, hR, hr, P, ht, k⟩ := h
  unfold gConsQ at ht
  split at ht
  · rename_i d r
    cases hr with
    | cons r1 rr =>
      refine ⟨_, _, rfl, F, A, s, d, hs, hR, r1, _, ht, fun s1 A1 σ1 H1 F1 p1 g1 h1 => ?_⟩
      exact ⟨F1, A1, s1, r, h1, g1.rs, rr.mono g1.ext, P, p1, fun s' A' σ' H' F' p g h => k _ _ _ _ _ p (g1.trans g) h⟩
  · exact ht.elim⟩
def gTupQ (n : Nat) (gs : TGsQ) : TGQ := fun d s A P => match d with | .tup ds => ds.length = n ∧ gs ds s A P | _ => False
theorem ptg_tup {tgs : List Expr} {gs : TGsQ} {n k : Nat} (hc : X.calm = true) (h : PTGs X T tgs gs) (hn : (assignEach tgs X.env).length = n := by rfl) (hst : (assignEach tgs X.env).findIdx? (·.1) = none := by rfl) : PTG X T (.Tuple tgs k pos) (gTupQ n gs) := ⟨(pg_tup hc h.pg hn hst).wk fun v σ H Q h => by
  obtain ⟨F, A, s, d, hs, hR, hr, P, ht, k⟩ := h
  unfold gTupQ at ht
  split at ht
  · cases hr with
    | tup h1 h2 => exact ⟨_, _, rfl, sqT_mono hR.sub h1, by rw [h2.length]; exact ht.1, F, A, s, _, hs, hR, h2, P, ht.2, k⟩
  · exact ht.elim⟩
/-- o[i] = v by data -/
abbrev SetQ := D → D → D → MH → (MH → Prop) → Prop
def setL : SetQ := fun o i v A P => match o, i with
  | .mut a, .int j => match A a with | some (.lst xs) => okQ (ixN xs.length j) fun n => P (A.set a (.lst (xs.set n v))) | _ => False
  | _, _ => False
def setD : SetQ := fun o i v A P => match o with
  | .mut a => match A a with | some (.dic kvs) => okQ (keyD i) fun k => kvs.length < 100000 ∧ P (A.set a (.dic (putA kvs k v))) | _ => False
  | _ => False
def gSubQ (to ti : TQ) (st : SetQ) : TGQ := fun v s A P => to s A fun o A1 => ti s A1 fun i A2 => st o i v A2 fun A3 => P s A3
def SetRel (K : PySem.W.Frag) (T : Tz) (st : SetQ) (r : TSet) : Prop := ∀ {F A H o i v ov iv vv} {P : MH → Prop} {Q : Hp → Prop}, RS K T F A H → Rep K F ov o → Rep K F iv i → Rep K F vv v → st o i v A P → (∀ A' H' F', P A' → Go K T F A H F' A' H' → Q H') → r ov iv vv H Q
theorem setRel_L {K : PySem.W.Frag} : SetRel K T setL rSetL := by
  intro F A H o i v ov iv vv P Q R ro ri rv h k
  unfold setL at h
  split at h
  · rename_i a j
    split at h
    · rename_i xs e
      cases en : ixN xs.length j with
      | none => rw [en] at h; exact h.elim
      | some n =>
        rw [en] at h
        obtain rfl := ro.mut_inv
        obtain rfl := ri.int_inv
        obtain ⟨vs, h2, h3⟩ := (R.mem a _ e).2
        have g := R.goW (u := .lst (vs.set n vv)) (m := .lst (xs.set n v)) e ⟨_, upd_same, h3.set rv n⟩
        exact ⟨a, vs, j, n, rfl, rfl, h2, by rw [h3.length]; exact en, k _ _ _ h g⟩
    · exact h.elim
  · exact h.elim
theorem setRel_D {K : PySem.W.Frag} : SetRel K T setD rSetD := by
  intro F A H o i v ov iv vv P Q R ro ri rv h k
  unfold setD at h
  split at h
  · rename_i a
    split at h
    · rename_i kvs e
      cases en : keyD i with
      | none => rw [en] at h; exact h.elim
      | some kk =>
        rw [en] at h
        obtain ⟨hz, h⟩ := h
        obtain rfl := ro.mut_inv
        obtain rfl := keyD_rep ri en
        obtain ⟨ps, h2, h3⟩ := (R.mem a _ e).2
        have g := R.goW (u := .dK (putK ps kk vv)) (m := .dic (putA kvs kk v)) e ⟨_, upd_same, (h3.a.put rv).kv⟩
        exact ⟨a, _, rfl, .inl ⟨ps, kk, h2, rfl, by rw [h3.length]; exact Evl.sz_lt hz, rfl⟩, k _ _ _ h g⟩
    · exact h.elim
  · exact h.elim
theorem ptg_sub {st : SetQ} {r : TSet} (rel : SetRel X.K T st r) (hp : PSet X r) (ho : PQ X T o to) (hi : PQ X T i ti)
    (ha : ∀ v, assign (.Subscript o i pos) X.env v = (do
      let ov ← holding [v] (eval o X.env)
      let iv ← holding [v, ov] (eval i X.env)
      standAt pos
      holding [v, ov, iv] (setItem ov iv v)
      release [v, ov, iv] []) := by intro _; rfl) : PTG X T (.Subscript o i pos) (gSubQ to ti st) := ⟨(pg_sub ho.pe hi.pe hp ha).wk fun v σ H Q h => by
  obtain ⟨F, A, s, d, hs, hR, hr, P, ht, k⟩ := h
  refine ⟨F, A, s, hs, hR, _, ht, fun x A1 xv H1 F1 p1 g1 r1 => ?_⟩
  refine ⟨F1, A1, s, hs.mono g1.ext, g1.rs, _, p1, fun y A2 yv H2 F2 p2 g2 r2 => ?_⟩
  exact rel g2.rs (r1.mono g2.ext) r2 (hr.mono (g1.trans g2).ext) p2 fun A' H' F' p g => k _ _ _ _ _ p ((g1.trans g2).trans g) (hs.mono ((g1.trans g2).trans g).ext)⟩
/-- target = e -/
def qAsgG (te : TQ) (g : TGQ) : TSQ := fun D s A => te s A fun d A1 => g d s A1 D.nx
theorem psq_asgG (he : PQ X T e te) (hg : PTG X T tg g) (hs : swapsWithSole [tg] e pos.line X.env = pure false := by rfl) (hw : swappedStores [tg] e X.env = pure none := by rfl)
    (h1 : (assignEach [tg] X.env).map (·.2) = [assign tg X.env] := by rfl) : PSQ X T (.Assign [tg] e pos) (qAsgG te g) := ⟨(ps_asg he.pe hg.pg hs hw h1).wk fun D σ H h => by
  obtain ⟨F, A, s, hs, hR, D2, ht, k⟩ := h
  refine ⟨F, A, s, hs, hR, _, ht, fun d A1 v H1 F1 p1 g1 r1 => ?_⟩
  exact ⟨F1, A1, s, d, hs.mono g1.ext, g1.rs, r1, _, p1, fun s' A' σ' H' F' p g h => k.nx _ _ _ _ _ p (g1.trans g) h⟩⟩

/-! ### dicts with tuple keys -/
def keysT : List D → Option (List Key)
  | [] => some []
  | d :: r => match keyD d, keysT r with | some k, some ks => some (k :: ks) | _, _ => none
theorem keysT_rep {K : PySem.W.Frag} {F : Hp} : ∀ {ds : List D} {vs : List V} {ks : List Key}, Reps K F vs ds → keysT ds = some ks → vs = ks.map kV
  | [], _, ks, .nil, h => by simp only [keysT, Option.some.injEq] at h; subst h; rfl
  | d :: ds, _, ks, .cons r rr, h => by
    simp only [keysT] at h
    split at h
    · rename_i k ks' h1 h2
      simp only [Option.some.injEq] at h; subst h
      rw [keyD_rep r h1, keysT_rep rr h2] <;> rfl
    · cases h
def ditD (A : MH) : D → Option (List (List Key × D))
  | .mut a => match A a with | some (.dit kvs) => some kvs | _ => none
  | _ => none
/-- d[a, b] -/
def qTGet (td : TQ) (t : TAQ) : TQ := fun s A P => td s A fun x A1 => t s A1 fun ys A2 => ys.length ≤ 100000 ∧ okQ (ditD A2 x) fun kvs => okQ (keysT ys) fun k => okQ (getA kvs k) fun d => P d A2
theorem pq_tget {es : List Expr} {k : Nat} {p2 : Pos} (hu : X.A.units + 1 < cLine) (ho : PQ X T o to) (hi : PAQ X T es t) (hs : NoSl (.Tuple es k p2)) : PQ X T (.Subscript o (.Tuple es k p2) pos) (qTGet to t) := ⟨(pe_dget hu ho.pe (pe_tup hi.pa) hs).wk fun σ H Q h => by
  obtain ⟨F, A, s, hs, hR, P, ht, k⟩ := h
  refine ⟨F, A, s, hs, hR, _, ht, fun x A1 xv H1 F1 p1 g1 r1 => ?_⟩
  refine ⟨F1, A1, s, hs.mono g1.ext, g1.rs, _, p1, fun ys A2 vs H2 F2 p2 g2 r2 => ⟨by rw [r2.length]; exact Evl.sz_of p2.1, fun p hp => ?_⟩⟩
  replace p2 := p2.2
  cases e1 : ditD A2 x with
  | none => rw [e1] at p2; exact p2.elim
  | some kvs =>
    rw [e1] at p2
    cases e2 : keysT ys with
    | none => rw [e2] at p2; exact p2.elim
    | some kk =>
      rw [e2] at p2
      simp only [okQ_some] at p2
      cases e3 : getA kvs kk with
      | none => rw [e3] at p2; exact p2.elim
      | some d =>
        rw [e3] at p2
        unfold ditD at e1
        split at e1
        · rename_i a
          split at e1
          · rename_i kvs' e
            cases e1
            obtain rfl := r1.mut_inv
            obtain ⟨ps, h2, h3⟩ := (g2.rs.mem a _ e).2
            obtain ⟨v, h5, h6⟩ := h3.a.get e3
            have g3 := g2.rs.goB (u := .tup vs) hp
            refine ⟨a, v, rfl, .inr ⟨ps, kk, p, .inl ((upd_ne (ne_of_none h2 hp)).trans h2), rfl, ?_, h5.symm⟩, k _ _ _ _ _ p2 ((g1.trans g2).trans g3) h6⟩
            rw [← keysT_rep r2 e2]
            exact upd_same
          · cases e1
        · cases e1⟩
/-- d[a, b] = v -/
def gSubT (td : TQ) (t : TAQ) : TGQ := fun v s A P => td s A fun x A1 => t s A1 fun ys A2 => ys.length ≤ 100000 ∧ match x with
  | .mut a => match A2 a with | some (.dit kvs) => okQ (keysT ys) fun k => kvs.length < 100000 ∧ P s (A2.set a (.dit (putA kvs k v))) | _ => False
  | _ => False
theorem ptg_subT {es : List Expr} {k : Nat} {p2 : Pos} (hu : X.A.units + 1 < cLine) (ho : PQ X T o to) (hi : PAQ X T es t)
    (ha : ∀ v, assign (.Subscript o (.Tuple es k p2) pos) X.env v = (do
      let ov ← holding [v] (eval o X.env)
      let iv ← holding [v, ov] (eval (.Tuple es k p2) X.env)
      standAt pos
      holding [v, ov, iv] (setItem ov iv v)
      release [v, ov, iv] []) := by intro _; rfl) : PTG X T (.Subscript o (.Tuple es k p2) pos) (gSubT to t) := ⟨(pg_sub ho.pe (pe_tup hi.pa) (set_dict hu) ha).wk fun v σ H Q h => by
  obtain ⟨F, A, s, d, hs, hR, hr, P, ht, k⟩ := h
  refine ⟨F, A, s, hs, hR, _, ht, fun x A1 xv H1 F1 p1 g1 r1 => ?_⟩
  refine ⟨F1, A1, s, hs.mono g1.ext, g1.rs, _, p1, fun ys A2 vs H2 F2 p2 g2 r2 => ⟨by rw [r2.length]; exact Evl.sz_of p2.1, fun p hp => ?_⟩⟩
  replace p2 := p2.2
  split at p2
  · rename_i a
    split at p2
    · rename_i kvs e
      cases e2 : keysT ys with
      | none => rw [e2] at p2; exact p2.elim
      | some kk =>
        rw [e2] at p2
        obtain ⟨hz, p2⟩ := p2
        obtain rfl := r1.mut_inv
        obtain ⟨ps, h2, h3⟩ := (g2.rs.mem a _ e).2
        have g3 := g2.rs.goB (u := .tup vs) hp
        obtain ⟨ps', h4, h5⟩ := (g3.rs.mem a _ e).2
        have hne : a ≠ p := ne_of_none h2 hp
        have eps : ps' = ps := by rw [upd_ne hne, h2] at h4; cases h4; rfl
        subst eps
        have g4 := g3.rs.goW (u := .dT (putK ps' kk v)) (m := .dit (putA kvs kk d)) e ⟨_, upd_same, (h5.a.put ((hr.mono (g1.trans g2).ext))).kt⟩
        have gg := ((g1.trans g2).trans g3).trans g4
        refine ⟨a, _, rfl, .inr ⟨ps', kk, p, h4, rfl, ?_, by rw [h5.a.len]; exact Evl.sz_lt hz, rfl⟩, k _ _ _ _ _ p2 gg (hs.mono gg.ext)⟩
        rw [← keysT_rep r2 e2]
        exact upd_same
    · exact p2.elim
  · exact p2.elim⟩
/-- {}, to hold tuple keys; to hold ints and texts -/
def qNewT : TQ := fun _ A P => ∀ a, A a = none → P (.mut a) (A.set a (.dit []))
def qNewK : TQ := fun _ A P => ∀ a, A a = none → P (.mut a) (A.set a (.dic []))
theorem pq_newT : PQ X T (.Dict [] [] pos) qNewT := ⟨pe_dnewT.wk fun σ H Q h => by
  obtain ⟨F, A, s, hs, hR, P, ht, k⟩ := h
  intro p hp
  exact k _ _ _ _ F (ht p (hR.free hp).2) (hR.goM hp ⟨[], upd_same, .nil⟩) (.mut p)⟩
theorem pq_newK : PQ X T (.Dict [] [] pos) qNewK := ⟨pe_dnewK.wk fun σ H Q h => by
  obtain ⟨F, A, s, hs, hR, P, ht, k⟩ := h
  intro p hp
  exact k _ _ _ _ F (ht p (hR.free hp).2) (hR.goM hp ⟨[], upd_same, .nil⟩) (.mut p)⟩
end
end Qd


set_option Elab.async false
set_option linter.all false
set_option maxRecDepth 100000
set_option maxHeartbeats 4000000
/-! Second layer, part L: defs, calls, exceptions. -/
namespace Qd
open PySem L2

/-- a def's promise over data -/
def liftSp (K : PySem.W.Frag) (r : RNQ) : Sp := fun vs H Q E => ∃ tb F A ds, Reps K F vs ds ∧ RS0 K tb F A H ∧ ∃ P : KQ, r ds A P ∧ ∀ d A' v H' F', P d A' → Go0 K tb F A H F' A' H' → Rep K F' v d → Q v H'
/-- .. that may raise -/
abbrev RXQ := List D → MH → KQ → XKQ → Prop
def liftSpX (K : PySem.W.Frag) (r : RXQ) : Sp := fun vs H Q E => ∃ tb F A ds, Reps K F vs ds ∧ RS0 K tb F A H ∧ ∃ (P : KQ) (x2 : XKQ), r ds A P x2 ∧ (∀ d A' v H' F', P d A' → Go0 K tb F A H F' A' H' → Rep K F' v d → Q v H') ∧
  ∀ C fs d A' H' F', x2 C fs A' → Go0 K tb F A H F' A' H' → XD K F' d fs → E (.ref C) d H'
theorem liftSp_len {K : PySem.W.Frag} {n : Nat} {r : RNQ} (h : ∀ ds A P, r ds A P → ds.length = n) : ∀ vs H Q E, liftSp K r vs H Q E → vs.length = n := fun vs H Q E ⟨tb, F, A, ds, h1, _, P, h2, _⟩ => by rw [h1.length]; exact h _ _ _ h2
theorem liftSpX_len {K : PySem.W.Frag} {n : Nat} {r : RXQ} (h : ∀ ds A P x2, r ds A P x2 → ds.length = n) : ∀ vs H Q E, liftSpX K r vs H Q E → vs.length = n := fun vs H Q E ⟨tb, F, A, ds, h1, _, P, x2, h2, _⟩ => by rw [h1.length]; exact h _ _ _ _ h2
/-- its parameters stand so in the text -/
def IsFn (fd : FuncData) (ar : Arguments) : Prop := ∃ (x qual : Str) (body : List Stmt) (scope : Scope) (kV doc pm : Value) (an : Option Addr) (cdv ct : Value), fd = PySem.W.fnOf x qual ar body scope .none kV doc pm an cdv ct
/-- what a caller knows of a def -/
structure Def (P : Program) (w : World) (K : PySem.W.Frag) (mg : Str → Option Value) (base : Heap) (k : Nat) (x : Str) (ar : Arguments) (ps : List Str) (r : RNQ) : Prop where
  is : ∃ f fd, FnOk P w K mg base CX0 k f fd ps (liftSp K r) ∧ mg x = some (.ref f) ∧ PySem.W.keepIn K (.ref f) = true ∧ Binds K fd ps [] ∧ IsFn fd ar
structure DefX (P : Program) (w : World) (K : PySem.W.Frag) (mg : Str → Option Value) (base : Heap) (k : Nat) (x : Str) (ar : Arguments) (ps : List Str) (r : RXQ) : Prop where
  is : ∃ f fd, FnOk P w K mg base (L2.CX P w) k f fd ps (liftSpX K r) ∧ mg x = some (.ref f) ∧ PySem.W.keepIn K (.ref f) = true ∧ Binds K fd ps [] ∧ IsFn fd ar
theorem Def.mono {P : Program} {w : World} {K : PySem.W.Frag} {mg : Str → Option Value} {base : Heap} {j k : Nat} {x : Str} {ar : Arguments} {ps : List Str} {r : RNQ} (G : Def P w K mg base j x ar ps r) (h : j ≤ k) : Def P w K mg base k x ar ps r := by
  obtain ⟨f, fd, F, q⟩ := G.is
  exact ⟨f, fd, F.mono h, q⟩
theorem DefX.mono {P : Program} {w : World} {K : PySem.W.Frag} {mg : Str → Option Value} {base : Heap} {j k : Nat} {x : Str} {ar : Arguments} {ps : List Str} {r : RXQ} (G : DefX P w K mg base j x ar ps r) (h : j ≤ k) : DefX P w K mg base k x ar ps r := by
  obtain ⟨f, fd, F, q⟩ := G.is
  exact ⟨f, fd, F.mono h, q⟩
section
variable {X : Cx} {T : Tz} {k : Nat} {ar : Arguments} {ps : List Str} {n : Nat} {r : RNQ} {rx : RXQ} {x : Str} {p pos : Pos} {e : Expr} {es : List Expr} {t : TAQ}
theorem lift_call {K : PySem.W.Frag} {σ : St} {H : Hp} {Q : VK} {E : XK} (h : lift K T (qCB r t) σ H Q) : tCall (liftSp K r) [] E (liftA K T t) σ H Q := by
  obtain ⟨F, A, s, hs, hR, P, ht, k⟩ := h
  refine ⟨F, A, s, hs, hR, _, ht, fun ds A1 vs H1 F1 p1 g1 r1 => ?_⟩
  show liftSp K r (vs ++ []) H1 Q E
  rw [List.append_nil]
  exact ⟨T.tb, F1, A1, ds, r1, g1.rs.r0, P, p1, fun d A' v H' F' p g r => k _ _ _ _ _ p (g1.trans (g1.rs.to g)) r⟩
/-- f(e, ..) -/
theorem pq_fn (G : Def X.prog X.w X.K X.mg X.base k x ar ps r) (hr : Room k X.A) (ha : PAQ X T (e :: es) t) (hg : Gl X x := by rfl) (hdb : (x == ("__debug__" : Str)) = false := by decide)
    (he : starEach (e :: es) X.env = (false, eval e X.env) :: starEach es X.env := by rfl) (hpl : (backTo pos (starEach es X.env)).any (·.1) = false := by rfl) : PQ X T (.Call (.Name x p) (e :: es) [] pos) (qCB r t) := by
  obtain ⟨f, fd, F, hm, hk, hb, _⟩ := G.is
  exact ⟨(pe_call F hr hg hm hk hb .nil pass0 ha.pa hdb he hpl).wk fun _ _ _ h => lift_call h⟩
theorem pq_fn0 (G : Def X.prog X.w X.K X.mg X.base k x ar ps r) (hr : Room k X.A) (hg : Gl X x := by rfl) (hdb : (x == ("__debug__" : Str)) = false := by decide) : PQ X T (.Call (.Name x p) [] [] pos) (qCB r qNil) := by
  obtain ⟨f, fd, F, hm, hk, hb, _⟩ := G.is
  exact ⟨(pe_call0 F hr hg hm hk hb .nil pass0 hdb).wk fun σ H Q h => by
    obtain ⟨F, A, s, hs, hR, P, ht, k⟩ := h
    exact ⟨T.tb, F, A, [], .nil, hR.r0, P, ht, fun d A' v H' F' p g r => k _ _ _ _ _ p (hR.to g) r⟩⟩
/-- f(e, ..) that may raise -/
def qCX (T : Tz) (r : RXQ) (t : TAQ) : TQ := fun s A P => t s A fun xs A1 => r xs A1 P T.x2
theorem lift_callX {K : PySem.W.Frag} {σ : St} {H : Hp} {Q : VK} (h : lift K T (qCX T rx t) σ H Q) : tCall (liftSpX K rx) [] T.xe (liftA K T t) σ H Q := by
  obtain ⟨F, A, s, hs, hR, P, ht, k⟩ := h
  refine ⟨F, A, s, hs, hR, _, ht, fun ds A1 vs H1 F1 p1 g1 r1 => ?_⟩
  show liftSpX K rx (vs ++ []) H1 Q T.xe
  rw [List.append_nil]
  exact ⟨T.tb, F1, A1, ds, r1, g1.rs.r0, P, T.x2, p1, fun d A' v H' F' p g r => k _ _ _ _ _ p (g1.trans (g1.rs.to g)) r, fun C fs d A' H' F' px g xd => g1.rs.xr.2 C fs d A' H' F' px g xd⟩
theorem pq_fnX (G : DefX X.prog X.w X.K X.mg X.base k x ar ps rx) (hr : Room k X.A) (hx : Passes (L2.CX X.prog X.w) X T.xe) (ha : PAQ X T (e :: es) t) (hg : Gl X x := by rfl) (hdb : (x == ("__debug__" : Str)) = false := by decide)
    (he : starEach (e :: es) X.env = (false, eval e X.env) :: starEach es X.env := by rfl) (hpl : (backTo pos (starEach es X.env)).any (·.1) = false := by rfl) : PQ X T (.Call (.Name x p) (e :: es) [] pos) (qCX T rx t) := by
  obtain ⟨f, fd, F, hm, hk, hb, _⟩ := G.is
  exact ⟨(pe_call F hr hg hm hk hb .nil hx ha.pa hdb he hpl).wk fun _ _ _ h => lift_callX h⟩
/-! ### keywords only: f(k = e, ..) -/
structure PKQ (X : Cx) (T : Tz) (kws : List Keyword) (t : TAQ) : Prop where
  pk : PK X kws (liftA X.K T t)
theorem _root_.L2.PK.wk {X : Cx} {e : List Keyword} {t u : TA} (h : PK X e t) (w : ∀ σ H Q, u σ H Q → t σ H Q) : PK X e u := ⟨fun pos pins s σ H Q I q => h.run pos pins s σ H Q I (w _ _ _ q)⟩
theorem pkq_nil : PKQ X T [] qNil := ⟨pk_nil.wk fun _ _ _ h => lift_nil h⟩
theorem pkq_cons {kws : List Keyword} {nm : Option Str} {kpos : Pos} {te : TQ} (ha : PQ X T e te) (hr : PKQ X T kws t) : PKQ X T (⟨nm, e, kpos⟩ :: kws) (qCons te t) := ⟨(pk_cons ha.pe hr.pk).wk fun _ _ _ h => lift_cons h⟩
/-- how the keywords' values stand among the parameters: at place i of the parameters the keyword perm[i] -/
def pick {α : Type} (perm : List Nat) (zs : List α) : List α := perm.filterMap fun i => zs[i]?
theorem pick_vals : ∀ (perm : List Nat) {zs : List V} {ws : List Value}, Vals zs ws → Vals (pick perm zs) (pick perm ws)
  | [], _, _, _ => .nil
  | i :: perm, zs, ws, r => by
    have ih := pick_vals perm r
    unfold pick at *
    rw [List.filterMap_cons, List.filterMap_cons]
    cases h : zs[i]? with
    | none =>
      have h2 : ws[i]? = none := by
        have := List.getElem?_eq_none_iff.mp h
        exact List.getElem?_eq_none (by rw [← r.length]; exact this)
      rw [h2]; exact ih
    | some v =>
      obtain ⟨u, hu, ru⟩ := r.get h
      rw [hu]; exact .cons ru ih
theorem pick_reps {K : PySem.W.Frag} {F : Hp} : ∀ (perm : List Nat) {vs : List V} {ds : List D}, Reps K F vs ds → Reps K F (pick perm vs) (pick perm ds)
  | [], _, _, _ => .nil
  | i :: perm, vs, ds, r => by
    have ih := pick_reps perm r
    unfold pick at *
    rw [List.filterMap_cons, List.filterMap_cons]
    cases h : ds[i]? with
    | none =>
      have h2 : vs[i]? = none := by
        have := List.getElem?_eq_none_iff.mp h
        exact List.getElem?_eq_none (by rw [r.length]; exact this)
      rw [h2]; exact ih
    | some v =>
      obtain ⟨u, hu, ru⟩ := r.get h
      rw [hu]; exact .cons ru ih
/-- the keywords ks bind: h is by a look at the parameters -/
def KwOk (ar : Arguments) (ps ks : List Str) (perm : List Nat) : Prop := ∀ (x qual : Str) (body : List Stmt) (scope : Scope) (kV doc pm : Value) (an : Option Addr) (cdv ct : Value) (ws : List Value), (pick perm ws).length = ps.length →
  bindArgs (PySem.W.fnOf x qual ar body scope .none kV doc pm an cdv ct) ⟨[], ks.zip ws⟩ = pure (ps.zip (pick perm ws))
theorem kbinds_of {K : PySem.W.Frag} {fd : FuncData} {ks : List Str} {perm : List Nat} (hps : ps ≠ []) (h : KwOk ar ps ks perm) (i : IsFn fd ar) : KBinds K fd ps ks (fun us ws => if us = [] then pick perm ws else []) (fun vs zs => if vs = [] then pick perm zs else []) := by
  obtain ⟨x, qual, body, scope, kV, doc, pm, an, cdv, ct, rfl⟩ := i
  refine ⟨fun s us ws X hl => ?_, fun {vs us zs ws} r rz => ?_⟩
  · cases us with
    | nil =>
      rw [if_pos rfl] at hl ⊢
      exact .of_eq (h x qual body scope kV doc pm an cdv ct ws hl)
    | cons u us =>
      rw [if_neg (by simp)] at hl
      exact absurd (List.length_eq_zero_iff.mp hl.symm) hps
  · cases r with
    | nil => rw [if_pos rfl, if_pos rfl]; exact pick_vals perm rz
    | cons _ _ => rw [if_neg (by simp), if_neg (by simp)]; exact .nil
def qKw (r : RNQ) (perm : List Nat) (t : TAQ) : TQ := fun s A P => t s A fun xs A1 => r (pick perm xs) A1 P
def qKwX (T : Tz) (r : RXQ) (perm : List Nat) (t : TAQ) : TQ := fun s A P => t s A fun xs A1 => r (pick perm xs) A1 P T.x2
theorem pe_kw0 {CX : CXT} {f : Addr} {fd : FuncData} {sp : Sp} {E : XK} {kws : List Keyword} {tk : TA} {ks : List Str} {g : List Value → List Value → List Value} {gV : List V → List V → List V} (F : FnOk X.prog X.w X.K X.mg X.base CX k f fd ps sp) (hr : Room k X.A) (hg : Gl X x) (hm : X.mg x = some (.ref f)) (hk : PySem.W.keepIn X.K (.ref f) = true) (hb : KBinds X.K fd ps ks g gV) (hx : Passes CX X E)
    (hkw : PK X kws tk) (hall : (backToKw pos (keywordEach kws X.env)).all (·.1.isSome) = true) (hks : (backToKw pos (keywordEach kws X.env)).filterMap (·.1) = ks) (hdb : (x == ("__debug__" : Str)) = false)
    (hpl : ((backTo pos (starEach [] X.env)).any (·.1) || (backToKw pos (keywordEach kws X.env)).any (·.1.isNone)) = false) : PE X (.Call (.Name x p) [] kws pos) (fun σ H Q => tk σ H fun zs H1 => sp (gV [] zs) H1 Q E) := by
  refine ⟨fun pins s σ H Q I h => ?_⟩
  refine wpAny_Call_Name_kw (ld_glob I hg hm ?_ hdb)
  refine PySem.W.callWith_KW0 (h₀ := X.base) I.ok.mod.kin hk hall (thn (hkw.run pos pins s σ H _ I h) fun ws s2 ⟨zs, H2, I2, rz, q2⟩ => ⟨I2.kIn, ?_⟩) hpl
  rw [hks]
  exact run_fnk F hr hb hx I2 .nil rz q2
theorem pq_kw {kws : List Keyword} {ks : List Str} {perm : List Nat} (G : Def X.prog X.w X.K X.mg X.base k x ar ps r) (hr : Room k X.A) (hkw : PKQ X T kws t) (hko : KwOk ar ps ks perm) (hps : ps ≠ [] := by simp) (hks : (backToKw pos (keywordEach kws X.env)).filterMap (·.1) = ks := by rfl) (hg : Gl X x := by rfl)
    (hall : (backToKw pos (keywordEach kws X.env)).all (·.1.isSome) = true := by rfl) (hdb : (x == ("__debug__" : Str)) = false := by decide)
    (hpl : ((backTo pos (starEach [] X.env)).any (·.1) || (backToKw pos (keywordEach kws X.env)).any (·.1.isNone)) = false := by rfl) : PQ X T (.Call (.Name x p) [] kws pos) (qKw r perm t) := by
  obtain ⟨f, fd, F, hm, hk, hb, hi⟩ := G.is
  exact ⟨(pe_kw0 F hr hg hm hk (kbinds_of hps hko hi) pass0 hkw.pk hall hks hdb hpl).wk fun σ H Q h => by
    obtain ⟨F, A, s, hs, hR, P, ht, k⟩ := h
    refine ⟨F, A, s, hs, hR, _, ht, fun ds A1 vs H1 F1 p1 g1 r1 => ?_⟩
    show liftSp X.K r (if ([] : List V) = [] then pick perm vs else []) H1 Q E0
    rw [if_pos rfl]
    exact ⟨T.tb, F1, A1, _, pick_reps perm r1, g1.rs.r0, P, p1, fun d A' v H' F' p g r => k _ _ _ _ _ p (g1.trans (g1.rs.to g)) r⟩⟩
theorem pq_kwX {kws : List Keyword} {ks : List Str} {perm : List Nat} (G : DefX X.prog X.w X.K X.mg X.base k x ar ps rx) (hr : Room k X.A) (hx : Passes (L2.CX X.prog X.w) X T.xe) (hkw : PKQ X T kws t) (hko : KwOk ar ps ks perm) (hps : ps ≠ [] := by simp) (hks : (backToKw pos (keywordEach kws X.env)).filterMap (·.1) = ks := by rfl) (hg : Gl X x := by rfl)
    (hall : (backToKw pos (keywordEach kws X.env)).all (·.1.isSome) = true := by rfl) (hdb : (x == ("__debug__" : Str)) = false := by decide)
    (hpl : ((backTo pos (starEach [] X.env)).any (·.1) || (backToKw pos (keywordEach kws X.env)).any (·.1.isNone)) = false := by rfl) : PQ X T (.Call (.Name x p) [] kws pos) (qKwX T rx perm t) := by
  obtain ⟨f, fd, F, hm, hk, hb, hi⟩ := G.is
  exact ⟨(pe_kw0 F hr hg hm hk (kbinds_of hps hko hi) hx hkw.pk hall hks hdb hpl).wk fun σ H Q h => by
    obtain ⟨F, A, s, hs, hR, P, ht, k⟩ := h
    refine ⟨F, A, s, hs, hR, _, ht, fun ds A1 vs H1 F1 p1 g1 r1 => ?_⟩
    show liftSpX X.K rx (if ([] : List V) = [] then pick perm vs else []) H1 Q T.xe
    rw [if_pos rfl]
    exact ⟨T.tb, F1, A1, _, pick_reps perm r1, g1.rs.r0, P, T.x2, p1, fun d A' v H' F' p g r => k _ _ _ _ _ p (g1.trans (g1.rs.to g)) r, fun C fs d A' H' F' px g xd => g1.rs.xr.2 C fs d A' H' F' px g xd⟩⟩
end
section
variable {X : Cx} {T : Tz} {k : Nat} {ar : Arguments} {ps : List Str} {n : Nat} {r : RNQ} {rx : RXQ} {x : Str} {p pos : Pos} {e : Expr} {es : List Expr} {t : TAQ}
/-- a context that lets nothing out -/
theorem pass_nox {X : Cx} {CX : CXT} {T : Tz} (h : ∀ e s, ¬ X.xe e s) (hx : T.xe = fun _ _ _ => False) : Passes (L2.CX X.prog X.w) X T.xe := by
  rw [hx]
  intro pins σ H s e s' I c
  obtain ⟨_, _, _, _, _, _, _, _, _, _, _, _, z⟩ := c
  exact z.elim
end
/-! ### a def by its body -/
def startQ (N : List Str) (ds : List D) : SQ := ds.map some ++ List.replicate (N.length - ds.length) none
theorem start_rep {K : PySem.W.Frag} {F : Hp} {N : List Str} {vs : List V} {ds : List D} (r : Reps K F vs ds) : Rs K F (startQ N ds) (L2.start N vs) := by
  unfold startQ L2.start
  rw [r.length]
  have tl : ∀ n : Nat, Rs K F (List.replicate n none) (List.replicate n none) := fun n => by
    induction n with
    | zero => exact .nil
    | succ n ih => exact .no ih
  generalize N.length - ds.length = m
  have go : ∀ {vs : List V} {ds : List D}, Reps K F vs ds → Rs K F (ds.map some ++ List.replicate m none) (vs.map some ++ List.replicate m none) := by
    intro vs
    induction vs with
    | nil => intro ds r; cases r; exact tl m
    | cons v vs ih => intro ds r; cases r with | cons a b => exact .yes a (ih b)
  exact go r
section
variable {P : Program} {w : World} {K : PySem.W.Frag} {mg : Str → Option Value} {base : Heap}
theorem def_ok {x qual : Str} {st : Stmt} {f : Addr} {fd : FuncData} {N ps : List Str} {k : Nat} {r : RNQ} (F : Fun K x qual st f fd) (S : FnScope N ps (defScope st)) (len : ∀ ds A P, r ds A P → ds.length = ps.length)
    (hbody : ∀ (cdv : Value) (A : Around) (outer : List Env) (s : Shared) (H : Hp) (E : XK) (tb : List (Addr × Str)), Room k (A.deeper (PyProof.Rows.envOfC qual (defScope st) s.heap.objs.size f cdv)) →
      ∃ t, PSsQ (cxOf CX0 P w K mg base N qual (defScope st) f cdv A outer s H E).nox { tb := tb } (defBody st) t ∧ ∀ ds A P, r ds A P → t { nx := fun _ A' => P .non A', rt := P } (startQ N ds) A) :
    FnOk P w K mg base CX0 (k + 1) f fd ps (liftSp K r) := by
  refine F.ok S (liftSp_len len) fun cdv A outer s H vs Q E hr h => ?_
  obtain ⟨tb, F0, A0, ds, h1, h2, PP, h3, h4⟩ := h
  obtain ⟨t, ht, hq⟩ := hbody cdv A outer s H E tb hr
  have hR : RS K { tb := tb } F0 A0 H := ⟨h2, trivial, fun C fs d A' H' F' z => z.elim⟩
  exact ⟨_, ht.ps, F0, A0, startQ N ds, start_rep h1, hR, _, hq ds A0 PP h3, ⟨fun s' A' σ' H' F' p g _ => h4 _ _ _ _ _ p g.g0 .non, fun d A' v H' F' p g rr => h4 _ _ _ _ _ p g.g0 rr, fun _ _ _ _ _ z => z.elim, fun _ _ _ _ _ z => z.elim⟩⟩
theorem def_okX {x qual : Str} {st : Stmt} {f : Addr} {fd : FuncData} {N ps : List Str} {k : Nat} {r : RXQ} (F : Fun K x qual st f fd) (S : FnScope N ps (defScope st)) (len : ∀ ds A P x2, r ds A P x2 → ds.length = ps.length)
    (hbody : ∀ (cdv : Value) (A : Around) (outer : List Env) (s : Shared) (H : Hp) (E : XK) (tb : List (Addr × Str)) (x2 : XKQ), Room k (A.deeper (PyProof.Rows.envOfC qual (defScope st) s.heap.objs.size f cdv)) →
      ∃ t, PSsQ (cxOf (L2.CX P w) P w K mg base N qual (defScope st) f cdv A outer s H E) { tb := tb, xe := E, x2 := x2 } (defBody st) t ∧ ∀ ds A P, r ds A P x2 → t { nx := fun _ A' => P .non A', rt := P } (startQ N ds) A) :
    FnOk P w K mg base (L2.CX P w) (k + 1) f fd ps (liftSpX K r) := by
  refine F.okX S (liftSpX_len len) fun cdv A outer s H vs Q E hr h => ?_
  obtain ⟨tb, F0, A0, ds, h1, h2, PP, x2, h3, h4, h5⟩ := h
  obtain ⟨t, ht, hq⟩ := hbody cdv A outer s H E tb x2 hr
  have hR : RS K { tb := tb, xe := E, x2 := x2 } F0 A0 H := ⟨h2, trivial, h5⟩
  exact ⟨_, ht.ps, F0, A0, startQ N ds, start_rep h1, hR, _, hq ds A0 PP h3, ⟨fun s' A' σ' H' F' p g _ => h4 _ _ _ _ _ p g.g0 .non, fun d A' v H' F' p g rr => h4 _ _ _ _ _ p g.g0 rr, fun _ _ _ _ _ z => z.elim, fun _ _ _ _ _ z => z.elim⟩⟩
/-- in a def that may raise, what it calls may raise the same -/
theorem pass_cx {N : List Str} {qual : Str} {scope : Scope} {f : Addr} {cdv : Value} {A : Around} {outer : List Env} {s : Shared} {H : Hp} {E : XK} : Takes (cxOf (L2.CX P w) P w K mg base N qual scope f cdv A outer s H E) (fun cls d _ H' => E cls d H') :=
  takes_of (E₁ := fun e' s'' => L2.CX P w outer H s E e' s'') rfl rfl rfl rfl
theorem pass_own {N : List Str} {qual : Str} {scope : Scope} {f : Addr} {cdv : Value} {A : Around} {outer : List Env} {s : Shared} {H : Hp} {E : XK} : Passes (L2.CX P w) (cxOf (L2.CX P w) P w K mg base N qual scope f cdv A outer s H E) E := passes_call pass_cx fun _ _ _ _ h => h
end
end Qd


set_option Elab.async false
set_option linter.all false
set_option maxRecDepth 100000
set_option maxHeartbeats 4000000
/-! Second layer, part M: own errors with one field: raise, try, except .. as e. -/
namespace Qd
open PySem L2

/-- __init__(self, f): self.f = f -/
def spInit (C : Addr) (f : Str) : Sp := fun vs H Q _ => ∃ a y, vs = [.ref a, y] ∧ H a = some (exo a C none) ∧ ∀ dx, H dx = none → dx ≠ a → Q .non (upd (upd H dx (exd dx [(f, y)])) a (exo a C (some dx)))
section
variable {P : Program} {w : World} {K : PySem.W.Frag} {mg : Str → Option Value} {base : Heap}
theorem init_ok {x qual : Str} {st : Stmt} {fI C : Addr} {fd : FuncData} {k : Nat} {f : Str} {p1 p2 p3 p4 : Pos} (F : Fun K x qual st fI fd) (S : FnScope ["self", f] ["self", f] (defScope st)) (hb : defBody st = [.Assign [.Attribute (.Name "self" p1) f p2] (.Name f p3) p4])
    (T : OexC K C) (hno : PySem.W.findIn K (.ref C) f = some none) (hv : Vis (defScope st) "self" := by first | exact Or.inl rfl | exact Or.inr (Or.inl rfl)) (hv2 : Vis (defScope st) f := by first | exact Or.inl rfl | exact Or.inr (Or.inl rfl)) (hd : (f == ("__debug__" : Str)) = false := by decide) (hcd : (f == ("__classdict__" : Str)) = false := by decide)
    (hs : ∀ env : Env, swapsWith (.Name f p3) (some (.Attribute (.Name "self" p1) f p2)) p4.line env = pure false := by intro env; rfl) : FnOk P w K mg base CX0 (k + 1) fI fd ["self", f] (spInit C f) := by
  refine F.ok S (fun vs H Q E h => ?_) (fun cdv A outer s H vs Q E hr h => ?_)
  · obtain ⟨a, y, rfl, _⟩ := h; rfl
  · obtain ⟨a, y, rfl, ha, q⟩ := h
    rw [hb]
    refine ⟨_, pss_one (ps_ost (pv 0 rfl hv) (pv 1 rfl hv2 hd hcd) (hs _)), ?_⟩
    exact ⟨y, rfl, .ref a, rfl, a, C, rfl, T, hno, .inl ⟨ha, fun dx h1 h2 => q dx h1 h2⟩⟩
/-- an own error class with one field -/
structure ErrC (P : Program) (w : World) (K : PySem.W.Frag) (mg : Str → Option Value) (base : Heap) (k : Nat) (x : Str) (C : Addr) (f : Str) : Prop where
  oex : OexC K C
  gm : mg x = some (.ref C)
  ini : ∃ fI fd, PySem.W.findIn K (.ref C) "__init__" = some (some (.ref fI)) ∧ PySem.W.typeIn K (.ref fI) = some (.type "function") ∧ FnOk P w K mg base CX0 k fI fd ["self", f] (spInit C f) ∧ Binds K fd ["self", f] []
end
section
variable {X : Cx} {T : Tz} {k : Nat} {x f : Str} {C : Addr} {p pos pos2 : Pos} {e : Expr} {te : TQ}
def qRaise (T : Tz) (C : Addr) (f : Str) (te : TQ) : TSQ := fun _ s A => te s A fun d A1 => T.x2 C [(f, d)] A1
theorem raise_heap {H : Hp} {a dx : Addr} {o1 o2 o3 : HO} (ha : H a = none) (hne : dx ≠ a) : upd (L2.del (upd (upd (upd H a o1) dx o2) a o3) a) dx o3 = upd H dx o3 := by
  funext b
  by_cases h1 : b = dx
  · subst h1; rw [upd_same, upd_same]
  · rw [upd_ne h1, upd_ne h1]
    by_cases h2 : b = a
    · subst h2; rw [L2.del_same, ha]
    · rw [L2.del_ne h2, upd_ne h2, upd_ne h1, upd_ne h2]
theorem psq_raise (G : ErrC X.prog X.w X.K X.mg X.base k x C f) (hc : X.calm = true) (hr : Room (k + 1) X.A) (tk : Takes X (fun cls d _ H => T.xe cls d H)) (he : PQ X T e te) (hg : Gl X x := by rfl) (hdb : (x == ("__debug__" : Str)) = false := by decide)
    (hs : starEach [e] X.env = (false, eval e X.env) :: starEach [] X.env := by rfl) : PSQ X T (.Raise (some (.Call (.Name x p) [e] [] pos)) none pos2) (qRaise T C f te) := by
  obtain ⟨fI, fd, h1, h2, F, hb⟩ := G.ini
  refine ⟨(ps_raise hc tk (pmk_oex (p := p) (pos := pos) G.oex h1 h2 F hr hb .nil (CX := CX0) (fun _ _ _ _ _ _ _ z => z.elim) hg G.gm (pa_cons he.pe pa_nil hs) hdb hs rfl)).wk fun D σ H h => ?_⟩
  obtain ⟨F0, A, s, hs, hR, D2, ht, k⟩ := h
  refine ⟨F0, A, s, hs, hR, _, ht, fun d A1 v H1 F1 p1 g1 r1 => ⟨by simp, fun a ha => ?_⟩⟩
  refine ⟨a, v, rfl, upd_same, fun dx hd hne => ?_⟩
  have hd1 : H1 dx = none := by rw [upd_ne hne] at hd; exact hd
  refine ⟨rfl, dx, [(f, v)], upd_same, by rw [upd_ne hne, upd_same], hd1, ?_⟩
  have e1 : upd (L2.del (upd (upd (upd H1 a (exo a C none)) dx (exd dx [(f, v)])) a (exo a C (some dx))) a) dx (.xd [(f, v)]) = upd H1 dx (.xd [(f, v)]) := by
    funext b
    by_cases q1 : b = dx
    · subst q1; rw [upd_same, upd_same]
    · rw [upd_ne q1, upd_ne q1]
      by_cases q2 : b = a
      · subst q2; rw [L2.del_same, ha]
      · rw [L2.del_ne q2, upd_ne q2, upd_ne q1, upd_ne q2]
  rw [e1]
  have g2 := g1.rs.goF (u := .xd [(f, v)]) hd1 trivial
  exact g1.rs.xr.2 C [(f, d)] (some dx) A1 _ _ p1 g2.g0 (.inr ⟨dx, _, rfl, upd_same, .cons (r1.mono g2.ext) .nil⟩)

/-! ### try: .. except C as e: suite -/
/-- the wish of the clause: C's own errors go to the suite -/
theorem len_read {X : Cx} {st : List Stmt} {t : TS} (h : PSs X st t) : PSs X st (fun D σ H => σ.length = X.N.length → t D σ H) := ⟨fun pins s σ H D I q => h.run pins s σ H D I (q I.len)⟩
/-- e.f of the caught error at a -/
def qXf (a : Addr) (f : Str) (fs : List (Str × D)) (te : TQ) : TQ := fun s A P => te s A fun x A1 => x = .fn a ∧ okQ (fs.lookup f) fun v => P v A1
abbrev Tz.sees (T : Tz) (K : PySem.W.Frag) (d : Option Addr) (fs : List (Str × D)) : Tz := { tb := T.tb, xe := T.xe, x2 := T.x2, iv := fun F => T.iv F ∧ XD K F d fs, mono := fun e h => ⟨T.mono e h.1, by
  rcases h.2 with z | ⟨dx, vs, h1, h2, h3⟩
  · exact .inl z
  · exact .inr ⟨dx, vs, h1, e _ _ h2, h3.mono e⟩⟩ }
theorem fs_lookup {K : PySem.W.Frag} {F : Hp} {f : Str} {d : D} : ∀ {vs : List (Str × V)} {fs : List (Str × D)}, FsRep K F vs fs → fs.lookup f = some d → ∃ v, vs.lookup f = some v ∧ Rep K F v d
  | _, _, .nil, h => by simp at h
  | _, _, @FsRep.cons _ _ n v c ps ds r rr, h => by
    by_cases hn : f = n
    · subst hn
      simp only [List.lookup_cons, beq_self_eq_true, Option.some.injEq] at h
      subst h
      exact ⟨v, by simp, r⟩
    · have e : (f == n) = false := by simpa using hn
      simp only [List.lookup_cons, e] at h
      obtain ⟨w, h1, h2⟩ := fs_lookup rr h
      exact ⟨w, by simp only [List.lookup_cons, e]; exact h1, h2⟩
theorem pq_xf {a : Addr} {oe : Obj} {cls : Value} {d : Option Addr} {pn : List (Addr × Obj)} {fs : List (Str × D)} (G : XfC X.K C) (hno : PySem.W.findIn X.K (.ref C) f = some none) (hcls : cls = .ref C) (hz : Zc cls d oe) (hf : ∃ vs, oe.data = .fields vs)
    (he : PQ (X.suite a ((a, oe) :: pn)) (T.sees X.K d fs) e te) (hne : fs ≠ []) (hb : attributeBase e f X.env (eval e X.env) = eval e X.env := by rfl) :
    PQ (X.suite a ((a, oe) :: pn)) (T.sees X.K d fs) (.Attribute e f pos) (qXf a f fs te) := ⟨(pe_xf (a := a) (d := d) G hno hz hf he.pe hb).wk fun σ H Q h => by
  obtain ⟨F0, A, s, hs, hR, P, ht, k⟩ := h
  refine ⟨F0, A, s, hs, hR, _, ht, fun x A1 v H1 F1 p1 g1 r1 => ?_⟩
  obtain ⟨rfl, p1⟩ := p1
  cases r1
  refine ⟨rfl, hcls, ?_⟩
  cases e1 : fs.lookup f with
  | none => rw [e1] at p1; exact p1.elim
  | some c =>
    rw [e1] at p1
    have xd : XD X.K F1 d fs := g1.rs.xr.1.2
    rcases xd with z | ⟨dx, vs, h1, h2, h3⟩
    · exact absurd z hne
    · obtain ⟨w, h4, h5⟩ := fs_lookup h3 e1
      exact ⟨dx, vs, w, h1, g1.rs.sub _ _ h2, h4, k _ _ _ _ _ p1 g1 h5⟩⟩
theorem takes_len {W W' : WX} (t : Takes X W) (h : ∀ c d σ H, σ.length = X.N.length → W' c d σ H → W c d σ H) : Takes X W' := fun u s' ⟨a, B, sI, pins, σ, H, cls, d, e, I, nb, up, sky, na, os, ag, w⟩ =>
  t u s' ⟨a, B, sI, pins, σ, H, cls, d, e, I, nb, up, sky, na, os, ag, h _ _ _ _ I.len w⟩
/-- try: body / except C as name: suite (it returns) -/
def qTryAs (C : Addr) (i n : Nat) (tb : XKQ → TSQ) (ts : Addr → List (Str × D) → TSQ) : TSQ := fun D s A => tb (fun C' fs A1 => C' = C ∧ fs ≠ [] ∧ ∀ a, ts a fs { nx := fun _ _ => False, rt := D.rt } ((List.replicate n none).set i (some (.fn a))) A1) { D with } s A
theorem rs_blank {K : PySem.W.Frag} {F : Hp} {a : Addr} {i : Nat} : ∀ {σ : St}, Rs K F (List.replicate σ.length none) σ
  | [] => .nil
  | _ :: σ => .no (rs_blank (σ := σ) (a := a) (i := i))
theorem psq_try_as {nm : Str} {i : Nat} {body suite : List Stmt} {b₀ : Stmt} {np pos' : Pos} {tb : XKQ → TSQ} {ts : Addr → List (Str × D) → TSQ} (hs : X.stack = X.env :: X.outer) (hf : X.env.frame = some X.env.locals) (hN : X.N.Nodup) (hi : X.N[i]? = some nm) (hln : X.env.kindOf nm = some .local) (hc : Names X x (.ref C))
    (hx : T.xe = fun _ _ _ => False) (tk : Takes X (fun _ _ _ _ => False)) (hex : PySem.W.exmOne X.K (.ref C) (.ref C) = some true)
    (hb : ∀ (pn : List (Addr × Obj)) (xe : Value → Shared → Prop) (T' : Tz), Takes (X.tr pn xe) (fun cls d _ H => T'.xe cls d H) → PassesOwn (model X.prog X.w) X.A X.env xe → PSsQ (X.tr pn xe) T' body (tb T'.x2))
    (hsu : ∀ (a : Addr) (oe : Obj) (cls : Value) (d : Option Addr) (pn : List (Addr × Obj)) (fs : List (Str × D)), fs ≠ [] → cls = .ref C → Zc cls d oe → (∃ vs, oe.data = .fields vs) → PSsQ (X.suite a ((a, oe) :: pn)) (({ tb := T.tb } : Tz).sees X.K d fs) (b₀ :: suite) (ts a fs)) :
    PSQ X T (.Try body [.ExceptHandler (some (.Name x np)) (some nm) (b₀ :: suite) pos'] [] [] pos) (qTryAs C i X.N.length tb ts) := by
  let tsV : Addr → Value → Option Addr → TS := fun a cls d D σ H => ∃ fs, cls = .ref C ∧ fs ≠ [] ∧ liftS X.K (({ tb := T.tb } : Tz).sees X.K d fs) (ts a fs) D σ H
  let tbV : WX → TS := fun W D σ H => ∃ T' : Tz, (∀ cls d σ H, σ.length = X.N.length → T'.xe cls d H → W cls d σ H) ∧ liftS X.K T' (tb T'.x2) D σ H
  refine ⟨(ps_try_as (tb := tbV) (ts := tsV) hs hf hN hi hln hc tk (fun W pn xe t hp => ⟨fun pins s σ H D I h => ?_⟩) (fun a oe cls d pn hz hd => ⟨fun pins s σ H D I h => ?_⟩)).wk fun D σ H h => ?_⟩
  · obtain ⟨T', h1, h2⟩ := h
    exact (hb pn xe T' (takes_len t h1) hp).ps.run pins s σ H D I h2
  · obtain ⟨fs, e, hne, h2⟩ := h
    exact (hsu a oe cls d pn fs hne e hz hd).ps.run pins s σ H D I h2
  · obtain ⟨F0, A, s, hs0, hR, D2, ht, k⟩ := h
    refine ⟨{ tb := T.tb, xe := fun cls d H' => ∀ σ', σ'.length = X.N.length → wAs X.K (.ref C) i tsV (fun _ _ _ _ => False) D cls d σ' H', x2 := _ }, fun cls d σ H hl h => h σ hl, F0, A, s, hs0, ⟨hR.r0, trivial, fun C' fs d A' H' F' px g xd σ' hl => ?_⟩, D2, ht, ⟨fun s' A' σ' H' F' p g r => k.nx _ _ _ _ _ p (hR.to g.g0) r, fun d A' v H' F' p g r => k.rt _ _ _ _ _ p (hR.to g.g0) r, fun s' A' σ' H' F' p g r => k.bk _ _ _ _ _ p (hR.to g.g0) r, fun s' A' σ' H' F' p g r => k.ct _ _ _ _ _ p (hR.to g.g0) r⟩⟩
    obtain ⟨rfl, hne, px⟩ := px
    refine ⟨true, hex, fun _ a ha => ⟨fs, rfl, hne, F', A', _, ?_, ⟨g.rs, ⟨trivial, xd⟩, fun _ _ _ _ _ _ z => z.elim⟩, _, px a, ⟨fun _ _ _ _ _ z => z.elim, fun d' A'' v H'' F'' p g2 r => k.rt _ _ _ _ _ p ((hR.to g).trans ((hR.via g).to g2.g0)) r, fun _ _ _ _ _ z => z.elim, fun _ _ _ _ _ z => z.elim⟩⟩, fun z => nomatch z⟩
    rw [← hl]
    exact (rs_blank (a := a) (i := i)).set (.fn a) i
end
end Qd


set_option Elab.async false
set_option linter.all false
set_option maxRecDepth 100000
set_option maxHeartbeats 4000000
/-! Second layer, part N: met(lambda: e): told, or the error's field. -/
namespace Qd
open PySem L2 LamX

/-- what becomes of the value told -/
def TTm (C : Addr) (f told code : Str) : (XK → Hp → VK → Prop) → Hp → VK → Prop := fun tl H Q =>
  tl (fun cls d H' => cls = .ref C ∧ ∃ dx vs v, d = some dx ∧ H' dx = some (.xd vs) ∧ vs.lookup f = some v ∧ ∀ p, H' p = none → Q (.ref p) (upd H' p (.tup [.str code, v]))) H
    (fun v H' => [V.str told, v].length ≤ sizeLine ∧ ∀ p, H' p = none → Q (.ref p) (upd H' p (.tup [.str told, v])))
section
variable {X : Cx}
theorem met_gives {x ec f told code q : Str} {sg : Scope} {g C : Addr} {cdg : Value} {j1 j2 k1 k2 : Nat} {p1 p2 p3 p4 p5 p6 p7 p8 p9 p10 p11 p12 p13 : Pos} (Sg : FnScope ["ask", "e"] ["ask"] sg) (hge : sg.names.lookup ec = some .globalImplicit) (hme : X.mg ec = some (.ref C)) (hde : (ec == ("__debug__" : Str)) = false)
    (hle : sg.names.lookup ("e" : Str) = some .local) (G : XfC X.K C) (hno : PySem.W.findIn X.K (.ref C) f = some none) (hex : PySem.W.exmOne X.K (.ref C) (.ref C) = some true)
    (hsw : ∀ env : Env, starEach [.Constant (.str told) j1 p3, .Call (.Name "ask" p1) [] [] p2] env = (false, eval (.Constant (.str told) j1 p3) env) :: starEach [.Call (.Name "ask" p1) [] [] p2] env := by intro env; rfl)
    (hsw2 : ∀ env : Env, starEach [.Call (.Name "ask" p1) [] [] p2] env = (false, eval (.Call (.Name "ask" p1) [] [] p2) env) :: starEach [] env := by intro env; rfl)
    (hsw3 : ∀ env : Env, starEach [.Constant (.str code) j2 p8, .Attribute (.Name "e" p6) f p7] env = (false, eval (.Constant (.str code) j2 p8) env) :: starEach [.Attribute (.Name "e" p6) f p7] env := by intro env; rfl)
    (hsw4 : ∀ env : Env, starEach [.Attribute (.Name "e" p6) f p7] env = (false, eval (.Attribute (.Name "e" p6) f p7) env) :: starEach [] env := by intro env; rfl)
    (hba : ∀ env : Env, attributeBase (.Name "e" p6) f env (eval (.Name "e" p6) env) = eval (.Name "e" p6) env := by intro env; rfl) :
    GivesTo X ["ask", "e"] x sg g cdg [.Try [.Return (some (.Tuple [.Constant (.str told) j1 p3, .Call (.Name "ask" p1) [] [] p2] k1 p4)) p5]
      [.ExceptHandler (some (.Name ec p9)) (some "e") [.Return (some (.Tuple [.Constant (.str code) j2 p8, .Attribute (.Name "e" p6) f p7] k2 p10)) p11] p12] [] [] p13] "ask" q (TTm C f told code) := by
  intro fa c' s H Q tl act hc h
  have hgl : Gl (cxOf C8.CX0 X.prog X.w X.K X.mg X.base ["ask", "e"] x sg g cdg X.A X.stack s H C8.E0).nox ec := hge
  have sz2 : ∀ n, n = 2 → n ≤ sizeLine := fun n e => by rw [e, sizeLine_eq]; decide
  refine ⟨_, pss_one (ps_try_as (X := (cxOf C8.CX0 X.prog X.w X.K X.mg X.base ["ask", "e"] x sg g cdg X.A X.stack s H C8.E0).nox) (c := .ref C) (i := 1) (Wout := fun _ _ _ _ => False)
      (tb := fun W D σ H => ∃ Ech : XK, (∀ cls d σ' H', σ'.length = 2 → Ech cls d H' → W cls d σ' H') ∧ σ[0]? = some (some (.ref fa)) ∧ H c' = some (CodeO c' q) ∧ tl Ech H fun v H' => [V.str told, v].length ≤ sizeLine ∧ ∀ p, H' p = none → D.rt (.ref p) (upd H' p (.tup [.str told, v])))
      (ts := fun a cls d D σ H => ∃ dx vs v, cls = .ref C ∧ σ.length = 2 ∧ σ[1]? = some (some (.ref a)) ∧ d = some dx ∧ H dx = some (.xd vs) ∧ vs.lookup f = some v ∧ ∀ p, H p = none → D.rt (.ref p) (upd H p (.tup [.str code, v])))
      rfl rfl Sg.nd rfl hle ⟨hgl, hde, .inl hme⟩ LamX.takes0 (fun W pn xe tk _ => ⟨fun pins s' σ H' D I h' => ?_⟩) (fun a oe cls d pn hz hd => ⟨fun pins s' σ H' D I h' => ?_⟩)), ?_⟩
  · obtain ⟨Ech, hW, h1, h2, h3⟩ := h'
    have hp := act (fun cls d σ H => σ.length = 2 → W cls d σ H) pn xe Ech p1 p2 (takes_len tk fun c d σ H hl w => w hl) (fun cls d σ' H' e hl => hW cls d σ' H' hl e)
    exact (pss_one (ps_ret (pos := p5) (pe_tup (x1 := k1) (pos := p4) (pa_cons pe_str (pa_cons hp pa_nil (hsw2 _)) (hsw _))))).run pins s' σ H' D I ⟨h1, h2, h3⟩
  · obtain ⟨dx, vs, v, rfl, hl, h1, h2, h3, h4, h5⟩ := h'
    have hv : Vis sg ("e" : Str) := .inl hle
    have hpe : PE (Cx.suite ((cxOf C8.CX0 X.prog X.w X.K X.mg X.base ["ask", "e"] x sg g cdg X.A X.stack s H C8.E0).nox) a ((a, oe) :: pn)) (.Name "e" p6) (tVar 1) := pv 1 rfl hv
    have hpx := pe_xf (X := (cxOf C8.CX0 X.prog X.w X.K X.mg X.base ["ask", "e"] x sg g cdg X.A X.stack s H C8.E0).nox) (pos := p7) G hno hz hd hpe (hba _)
    refine (pss_one (ps_ret (pos := p11) (pe_tup (x1 := k2) (pos := p10) (pa_cons pe_str (pa_cons hpx pa_nil (hsw4 _)) (hsw3 _))))).run pins s' σ H' D I ?_
    exact ⟨.ref a, h1, rfl, rfl, dx, vs, v, h2, h3, h4, sz2 _ rfl, h5⟩
  · refine ⟨fun cls d H' => cls = .ref C ∧ ∃ dx vs v, d = some dx ∧ H' dx = some (.xd vs) ∧ vs.lookup f = some v ∧ ∀ p, H' p = none → Q (.ref p) (upd H' p (.tup [.str code, v])), fun cls d σ' H' hl ⟨e, dx, vs, v, e1, e2, e3, e4⟩ => ⟨true, by rw [e]; exact hex, fun _ a ha => ⟨dx, vs, v, e, by simp [hl], ?_, e1, e2, e3, e4⟩, fun z => nomatch z⟩, rfl, hc, h⟩
    rw [List.getElem?_set_self (by omega)]
end
/-! ### the rule over data -/
section
variable {X : Cx} {T : Tz}
/-- met(lambda: e) -/
def qMet (C : Addr) (f told code : Str) (tB : XKQ → TQ) : TQ := fun s A P => tB (fun C' fs A1 => C' = C ∧ ∃ v, fs.lookup f = some v ∧ P (.tup [.str code, v]) A1) s A fun d A1 => P (.tup [.str told, d]) A1
theorem ext_go {K : PySem.W.Frag} {tb : List (Addr × Str)} {F H H1 : Hp} {A : MH} (R : RS0 K tb F A H) (e : ExtN H H1) (t : Tabs tb H1) : Go0 K tb F A H F A H1 := by
  have np : ∀ {u : HO}, Plain u → ∀ ps, u ≠ .tbl ps := fun {u} h ps z => by subst z; exact h
  refine ⟨Same.refl F, ⟨fun b o h => e b o (R.sub b o h) (np (R.pl b o h)), fun b o h => ?_, t, R.pl⟩, fun b u h n pl => ⟨e b u h (np pl), n, fun z => z⟩⟩
  obtain ⟨m1, m2⟩ := R.mem b o h
  obtain ⟨u, hu, wu, _⟩ := m2.there
  exact ⟨m1, m2.mono (Same.refl F) (by rw [hu]; exact e b u hu (np wu.plain))⟩
theorem lift_met {K : PySem.W.Frag} {C : Addr} {f told code : Str} {tB : XKQ → TQ} {σ : St} {H : Hp} {Q : VK} (h : lift K T (qMet C f told code tB) σ H Q) :
    tLam T.tb (TTm C f told code) (fun E σ H Q => ∃ x2, lift K { tb := T.tb, xe := E, x2 := x2 } (tB x2) σ H Q) σ H Q := by
  obtain ⟨F, A, s, hs, hR, P, ht, k⟩ := h
  refine ⟨hR.tab, fun H1 e t => ?_⟩
  have g := ext_go hR.r0 e t
  refine ⟨_, F, A, s, hs, ⟨g.rs, trivial, fun C' fs d A' H' F' px g2 xd => ?_⟩, _, ht, fun d A' v H' F' p g2 r => ⟨by rw [sizeLine_eq]; simp, fun q hq => ?_⟩⟩
  · obtain ⟨rfl, v, e1, px⟩ := px
    rcases xd with z | ⟨dx, vs, h1, h2, h3⟩
    · subst z; simp at e1
    · obtain ⟨w, h4, h5⟩ := fs_lookup h3 e1
      refine ⟨rfl, dx, vs, w, h1, g2.rs.sub _ _ h2, h4, fun p hp => ?_⟩
      have g3 : Go K T F A H F' A' H' := hR.to (g.trans g2)
      have g4 := g3.rs.goF (u := .tup [.str code, w]) hp trivial
      exact k _ _ _ _ _ px (g3.trans g4) (.tup (.of upd_same) (.cons (.str _) (.cons (h5.mono g4.ext) .nil)))
  · have g3 : Go K T F A H F' A' H' := hR.to (g.trans g2.g0)
    have g4 := g3.rs.goF (u := .tup [.str told, v]) hq trivial
    exact k _ _ _ _ _ p (g3.trans g4) (.tup (.of upd_same) (.cons (.str _) (.cons (r.mono g4.ext) .nil)))
theorem pq_met {C : Addr} {f told code x a : Str} {g c P : Addr} {k : Nat} {pg : Arguments} {bg : List Stmt} {sg : Scope} {dV kV doc pm cdv ct oc : Value} {an od : Option Addr} {osl : Array (Option Value)} {Ng : List Str} {tB : XKQ → TQ}
    {params : Arguments} {body : Expr} {scope : Scope} {p lpos pos : Pos} (hm : X.mg x = some (.ref g)) (hk : PySem.W.keepIn X.K (.ref g) = true)
    (lk : X.K.lookup g = some ⟨oc, od, .func (PySem.W.fnOf x x pg bg sg dV kV doc pm an cdv ct), osl⟩) (hcg : PySem.W.codeIn X.K cdv x = true) (hb : L2.Binds X.K (PySem.W.fnOf x x pg bg sg dV kV doc pm an cdv ct) [a] []) (Sg : FnScope Ng [a] sg) (hNg : Ng[0]? = some a) (hva : Vis sg a)
    (hG : GivesTo X Ng x sg g cdv bg a (X.env.qual ++ "<lambda>") (TTm C f told code))
    (TB : TabB X.base X.mg c P) (hcode : X.env.code = .ref c) (hmT : (P, X.env.qual ++ "<lambda>") ∈ T.tb) (hu : ∀ p ∈ T.tb, p.1 = P → p.2 = X.env.qual ++ "<lambda>") (hr : Room (k + 2) X.A) (L : LamS X.env.scope scope)
    (hbody : ∀ (A : Around) (outer : List Env) (s : Shared) (H : Hp) (E : XK) (f c' : Addr) (x2 : XKQ), Room k (A.deeper (lamEnv X scope s.heap.objs.size f c')) → PQ (lamCx X A outer s H E scope f c') { tb := T.tb, xe := E, x2 := x2 } body (tB x2)) (hdef : defaultsOf params X.env = ([], []) := by rfl)
    (hbind : ∀ (q : Str) (cl : List (Str × Addr)) (pm cv ctv : Value), bindArgs (PySem.W.kla_fn "<lambda>" q params body scope cl pm cv ctv) ⟨[], []⟩ = pure [] := by intros; rfl) (hg : Gl X x := by rfl)
    (hdb : (x == ("__debug__" : Str)) = false := by decide) (hd : (a == ("__debug__" : Str)) = false := by decide) (hcd : (a == ("__classdict__" : Str)) = false := by decide) :
    PQ X T (.Call (.Name x p) [.Lambda params body scope lpos] [] pos) (qMet C f told code tB) :=
  ⟨(pe_lamcall (t := fun E σ H Q => ∃ x2, lift X.K { tb := T.tb, xe := E, x2 := x2 } (tB x2) σ H Q) hg hm hk lk hcg hb Sg hNg hva hG TB hcode hmT hu hr L hdef hbind (fun A outer s H E f c' hr' => ⟨fun pins s σ H Q I h => by
    obtain ⟨x2, h⟩ := h
    exact (hbody A outer _ _ E f c' x2 hr').pe.run pins s σ H Q I h⟩) hdb hd hcd).wk fun _ _ _ h => lift_met h⟩
end
end Qd


set_option Elab.async false
set_option linter.all false
set_option maxRecDepth 100000
set_option maxHeartbeats 4000000
/-! Second layer, part O: dict comprehensions and displays whose keys are of any sort. -/
namespace Qd
open PySem L2 PyProof.Rows

/-! ### a dict that is filled: how it starts, how a pair is stored -/
structure Fill (P : Program) (w : World) (A : Around) where
  o0 : Addr → HO
  fresh : ∀ (H : Hp) (h : Heap), sysModules < h.objs.size → ObjOk P w H (h.push { cls := .type "dict", data := .dict #[] }) h.objs.size (o0 h.objs.size)
  put : V → V → Addr → Hp → (Hp → Prop) → Prop
  ok : ∀ (Y : Cx) (pins : List (Addr × Obj)) (σ : L2.St) (H : Hp) (s : Shared) (y z : V) (u r : Value) (D : Addr) (N : Hp → Prop) (E : Value → Shared → Prop), Y.prog = P → Y.w = w → Y.A = A → Inv Y pins σ H s → RelV y u → RelV z r → put y z D H N →
    wpAny (model P w) A (dictSet D u r) (fun _ s' => ∃ H', Inv Y pins σ H' s' ∧ N H') E s
section
variable {X : Cx}
/-- the reading of {k: v for target in iter if ..}, filled as Z says -/
def tFill (Z : Fill X.prog X.w X.A) (wi : TI) (g : TG) (tt : TT) (tk tv : TE) (vs : List Nat) : TE := fun σ H Q => wi σ H fun J H1 => ∀ D, H1 D = none → ∃ W : Nat → Nat → Hp → Prop, (∃ m, W 0 m (upd H1 D (Z.o0 D))) ∧ ∀ i m H, W i m H →
  (J.stop i H ∧ Q (.ref D) H) ∨ (J.go i H ∧ ∃ Nx : Hp → Prop, (∀ H', Nx H' → ∃ m', m' < m ∧ W (i + 1) m' H') ∧ ∀ x H', J.yld i H x H' → g x (wipe σ vs) H' fun σ2 H2 => wipe σ2 vs = wipe σ vs ∧ tt σ2 H2 fun b H3 =>
    if b = true then tk σ2 H3 fun y H4 => tv σ2 H4 fun z H5 => Z.put y z D H5 Nx else Nx H3)
variable {kx vx tg iter : Expr} {ifs : List Expr} {scope : Scope} {own : List (Str × Nat)} {pos : Pos} {wi : TI} {g : TG} {tt : TT} {tk tv : TE} {pins : List (Addr × Obj)} {σ : L2.St}
/-- what a turn needs of the block's parts -/
structure Parts (X : Cx) (scope : Scope) (tg : Expr) (ifs : List Expr) (kx vx : Expr) (g : TG) (tt : TT) (tk tv : TE) : Prop where
  t : ∀ (s : Shared) (H : Hp) (C : Addr) (cl : List (Str × Addr)) (fp : List Addr), PG (X.blk s H scope (compEnvC scope cl C X.env) fp) tg g
  i : ∀ (s : Shared) (H : Hp) (C : Addr) (cl : List (Str × Addr)) (fp : List Addr), PTs (X.blk s H scope (compEnvC scope cl C X.env) fp) ifs tt
  k : ∀ (s : Shared) (H : Hp) (C : Addr) (cl : List (Str × Addr)) (fp : List Addr), PE (X.blk s H scope (compEnvC scope cl C X.env) fp) kx tk
  v : ∀ (s : Shared) (H : Hp) (C : Addr) (cl : List (Str × Addr)) (fp : List Addr), PE (X.blk s H scope (compEnvC scope cl C X.env) fp) vx tv
theorem pe_fill (Z : Fill X.prog X.w X.A) (hc : X.calm = true) (hN : X.N.Nodup) (hi : PI X tg iter wi) (ok : BlkOk X.N X.env.scope scope own) (pp : Parts X scope tg ifs kx vx g tt tk tv) (hs : ∀ x, foldedSetIterable iter X.env x = pure x := by intro _; rfl) :
    PE X (.DictComp kx vx [⟨tg, iter, ifs, 0⟩] scope pos) (tFill Z wi g tt tk tv (own.map (·.2))) := by
  refine ⟨fun pins s σ H Q I h => ?_⟩
  rw [arm_eval_DictComp]
  have clo : ∀ y ∈ scope.names, y.2 = .free → ∃ c, X.env.cells.lookup y.1 = some c := fun y hy e => (ok.free y hy e).elim (fun q => I.ok.has _ (.inl q)) fun q => I.ok.has _ (.inr q)
  refine wpAny_comprehension_free (use := none) rfl hs (closure_ok clo) ok.kind (fun y hy e => by rw [ok.uniq y hy, e]) (thn (hi.run pins s σ H _ I h) fun xv sa q1 => thn q1 fun itv sb q2 => ?_)
  obtain ⟨it, fp, tn, J, Hb, rfl, Ib, TT, stb, fb, rd⟩ := q2
  refine wpAny_newObj_type (newEnv_comp ?_)
  -- the new dict
  obtain ⟨W, ⟨m0, w0⟩, turn⟩ := rd sb.heap.objs.size (Ib.hok.fresh (Nat.le_refl _))
  have lowfp : ∀ b ∈ fp, b < sb.heap.objs.size := fun b hb => let ⟨o, e, _⟩ := TT.obj _ _ stb b hb; Heap.lt_size e
  have Ic : Inv X pins σ (upd Hb sb.heap.objs.size (Z.o0 sb.heap.objs.size)) { sb with heap := sb.heap.push { cls := .type "dict", data := .dict #[] } } := Ib.laid (t' := sb.toks) (fun b o e => Heap.get?_push_of_some _ e) (Nat.le_refl _) (Z.fresh _ _ Ib.big)
  have fc : ∀ b ∈ fp, FpOk X pins (upd Hb sb.heap.objs.size (Z.o0 sb.heap.objs.size)) b ∧ b < (sb.heap.push { cls := .type "dict", data := .dict #[] }).objs.size := fun b hb =>
    ⟨⟨(upd_ne (Nat.ne_of_lt (lowfp b hb))).trans (fb b hb).1, (fb b hb).2⟩, by rw [Heap.size_push]; exact Nat.lt_succ_of_lt (lowfp b hb)⟩
  have stc := TT.keep _ _ (sb.heap.push { cls := .type "dict", data := .dict #[] }) stb fun b _ o e => Heap.get?_push_of_some _ e
  generalize sb.heap.objs.size = D at w0 turn Ic fc ⊢
  generalize upd Hb D (Z.o0 D) = Hc at w0 Ic fc ⊢
  generalize hsc : ({ sb with heap := sb.heap.push { cls := .type "dict", data := .dict #[] } } : Shared) = sc at Ic ⊢
  have hhc : sc.heap = sb.heap.push { cls := .type "dict", data := .dict #[] } := by rw [← hsc]
  rw [← hhc] at fc stc
  have Id := block_start Ic ok hN fc
  have gP := pp.t sc Hc sc.heap.objs.size (cellsFrom (sc.heap.objs.size + 1) scope.names (cloFrom X.env.cells scope.names [])) fp
  have iP := pp.i sc Hc sc.heap.objs.size (cellsFrom (sc.heap.objs.size + 1) scope.names (cloFrom X.env.cells scope.names [])) fp
  have kP := pp.k sc Hc sc.heap.objs.size (cellsFrom (sc.heap.objs.size + 1) scope.names (cloFrom X.env.cells scope.names [])) fp
  have vP := pp.v sc Hc sc.heap.objs.size (cellsFrom (sc.heap.objs.size + 1) scope.names (cloFrom X.env.cells scope.names [])) fp
  show codeAny _ _ (.compStart (.DictComp kx vx [⟨tg, iter, ifs, 0⟩] scope pos) 0 (.ref it) (.ref D) (compEnvC scope (cellsFrom (sc.heap.objs.size + 1) scope.names (cloFrom X.env.cells scope.names [])) sc.heap.objs.size X.env))
    (compPost (model X.prog X.w) X.A X.xe none (EP X pins σ Q) (.ref D) sc.heap.objs.size) { sc with heap := pushCells (sc.heap.push { cls := .type "dict", data := .dict #[] }) scope.names }
  have std : tn 0 (pushCells (sc.heap.push { cls := .type "dict", data := .dict #[] }) scope.names) := TT.keep _ _ _ stc fun b _ o e => pushCells_keeps _ _ _ _ (Heap.get?_push_of_some _ e)
  have eL : (compEnvC scope (cellsFrom (sc.heap.objs.size + 1) scope.names (cloFrom X.env.cells scope.names [])) sc.heap.objs.size X.env).locals = sc.heap.objs.size := rfl
  generalize compEnvC scope (cellsFrom (sc.heap.objs.size + 1) scope.names (cloFrom X.env.cells scope.names [])) sc.heap.objs.size X.env = ce at Id gP iP kP vP eL ⊢
  have std' : tn 0 ({ sc with heap := pushCells (sc.heap.push { cls := .type "dict", data := .dict #[] }) scope.names } : Shared).heap := std
  generalize ({ sc with heap := pushCells (sc.heap.push { cls := .type "dict", data := .dict #[] }) scope.names } : Shared) = sd at Id std' ⊢
  have n0 : ∀ b ∈ fp, Hc b = none := fun b hb => (fc b hb).1.1
  -- the iterator's own objects
  have own' : ∀ {σ' : L2.St} {H' : Hp} {s' : Shared}, Inv (X.blk sc Hc scope ce fp) [] σ' H' s' → (∀ b ∈ fp, H' b = none) → ∀ b ∈ fp, FpOk (X.blk sc Hc scope ce fp) [] H' b := fun {_ _ _} J hn b hb =>
    ⟨hn b hb, (J.ok.exf b hb).1, J.ok.exfs b hb, .inl hb, fun x c e => (J.ok.exf b hb).2 x c e, fun p hp => absurd (show p ∈ ([] : List (Addr × Obj)) ++ [] from hp) (by simp)⟩
  have loop : codeAny (model X.prog X.w) X.A (.compLoop (.DictComp kx vx [⟨tg, iter, ifs, 0⟩] scope pos) 0 (.ref it) (.ref D) ce) (compPost (model X.prog X.w) X.A X.xe none (EP X pins σ Q) (.ref D) sc.heap.objs.size) sd := by
    refine compLoop_anyD (fun n s' => ∃ i H', Inv (X.blk sc Hc scope ce fp) [] (wipe σ (own.map (·.2))) H' s' ∧ tn i s'.heap ∧ (∀ b ∈ fp, H' b = none) ∧ W i n H') (fun n se hse => ?_) m0 ⟨0, Hc, Id, std', n0, w0⟩
    obtain ⟨i, He, Ie, ste, ne, we⟩ := hse
    rcases turn i n He we with ⟨stp, fin⟩ | ⟨go, Nx, nxt, stepR⟩
    · refine thnF (TT.done (X.blk sc Hc scope ce fp) rfl rfl rfl hc i [] se _ He (fun _ _ => False) Ie (own' Ie ne) ste stp) fun r sf ⟨er, If⟩ => ?_
      subst er
      have Ig : Inv X pins σ He sf := Ic.call' (ch := fp) If.os If.base If.hok If.bare fun b hb => let z := (fc b hb).1; ⟨z.2.2.2.1, z.2.1, z.2.2.2.2.1, z.2.2.2.2.2⟩
      have nC : He sc.heap.objs.size = none := by
        have z : He ce.locals = none := If.free
        rwa [eL] at z
      obtain ⟨m, hn, _⟩ := If.loc
      have hn' : sf.heap.Ns ce.locals m := hn
      rw [eL] at hn'
      obtain ⟨f0, f1, f2, f3, f4, f5⟩ := Ic.fpOk (H' := He) (Nat.le_refl _) nC
      exact ⟨m, hn', fun h2 sb2 => ⟨.ref D, He, Ig.turned (t' := sf.toks) (fun b o hb e => (sb2.2 b hb).trans e) f0 f1 f3 f4 f5, rfl, fin⟩⟩
    · refine thnF (TT.item (X.blk sc Hc scope ce fp) rfl rfl rfl hc i [] se _ He (fun _ _ => False) Ie (own' Ie ne) ste go) fun r sf ⟨u, er, hu⟩ => ?_
      subst er
      refine thnF hu fun _ sg ⟨x, Hg, Ig, rx, yx, stg, ng⟩ => ?_
      have Ip := Ig.pinned (own' Ig ng) (TT.obj _ _ stg)
      refine thnF (gP.run _ sg _ Hg x u _ Ip rx (stepR x Hg yx)) fun _ sh ⟨σh, Hh, Ih, wh, qh⟩ => ?_
      refine thnF (iP.run _ sh σh Hh _ Ih qh) fun b si ⟨Hi, Ii, qi⟩ => ?_
      -- the end of the turn
      have done' : ∀ {s' : Shared} {H' : Hp}, Inv (X.blk sc Hc scope ce fp) ([] ++ pinsAt fp sg.heap) σh H' s' → Nx H' → ∃ m, m < n ∧ ∃ i H', Inv (X.blk sc Hc scope ce fp) [] (wipe σ (own.map (·.2))) H' s' ∧ tn i s'.heap ∧ (∀ b ∈ fp, H' b = none) ∧ W i m H' := fun {s' H'} J nx => by
        obtain ⟨m', lt, w'⟩ := nxt H' nx
        have at' : ∀ b ∈ fp, ∀ o, sg.heap.get? b = some o → s'.heap.get? b = some o ∧ H' b = none := fun b hb o e => let z := J.pin (b, o) (List.mem_append_right _ (List.mem_append_right _ (mem_pinsAt hb e))); ⟨z.1, z.2.1⟩
        refine ⟨m', lt, i + 1, H', (J.unpinned (pins := [])).weak (by rw [← wh, wipe_length]) (fun j v e => ?_), TT.keep _ _ _ stg fun b hb o e => (at' b hb o e).1, fun b hb => ?_, w'⟩
        · rw [← wh] at e; exact (wipe_some e).1
        · obtain ⟨o, e, _⟩ := TT.obj _ _ stg b hb
          exact (at' b hb o e).2
      cases b with
      | false => exact done' Ii (by simpa using qi)
      | true =>
        rw [if_pos rfl] at qi ⊢
        refine thnF (kP.run _ si σh Hi _ Ii qi) fun z sj ⟨y, Hj, Ij, ry, qj⟩ => thnF (vP.run _ sj σh Hj _ Ij qj) fun z2 sk ⟨v, Hk, Ik, rv, qk⟩ => ?_
        exact wpAny_mono (Z.ok (X.blk sc Hc scope ce fp) _ σh Hk sk y v z z2 D Nx _ rfl rfl rfl Ik ry rv qk) (fun _ sl ⟨Hl, Il, ql⟩ => done' Il ql) fun _ _ e => e
  exact codeAny_compStart_dict loop (TT.self X.A 0 _ _ _ std' loop)
end
end Qd


set_option Elab.async false
set_option linter.all false
set_option maxRecDepth 100000
set_option maxHeartbeats 4000000
/-! Second layer, part P: dict comprehensions, displays over data. -/
namespace Qd
open PySem L2

/-! ### keys that are bools or None -/
def leafOf : Option Bool → Leaf
  | none => .none
  | some b => .num (if b = true then 1 else 0)
theorem leafOf_inj {a b : Option Bool} (h : leafOf a = leafOf b) : a = b := by
  cases a with
  | none => cases b with
    | none => rfl
    | some b => cases h
  | some a => cases b with
    | none => cases h
    | some b => cases a <;> cases b <;> simp [leafOf] at h ⊢
def isOb : Option Bool → Value → Bool
  | none, .none => true
  | some b, .bool c => decide (b = c)
  | _, _ => false
theorem isOb_leaf {k : Option Bool} {v : Value} (h : isOb k v = true) : Leaf.isOf (leafOf k) v = true := by
  cases k with
  | none => cases v <;> simp [isOb] at h; rfl
  | some b => cases v <;> simp [isOb] at h; subst h; simp [leafOf, Leaf.isOf]
def obKind (prog : Program) (w : World) : PySem.KeyKind prog w (Option Bool) where
  is := isOb
  hash := fun k => (leafOf k).key.hash w
  inj := fun v a b ha hb => by
    cases a <;> cases b <;> cases v <;> simp [isOb] at ha hb <;> first | rfl | (subst ha; subst hb; rfl)
  byValue := fun _ _ h => Leaf.byValue (isOb_leaf h)
  pyHash := fun hv h => pyHash_leaf (isOb_leaf hv) h
  eqBool := fun {A E s a b u v Q} hu hv h => eqAt_leaf (isOb_leaf hu) (isOb_leaf hv) _ _ _ _ (by
    have e : decide (leafOf a = leafOf b) = decide (a = b) := by
      by_cases q : a = b
      · subst q; simp
      · rw [decide_eq_false q, decide_eq_false fun z => q (leafOf_inj z)]
    rw [e]; exact h)
  «strs» := fun k x t v h => by cases k <;> simp [isOb] at h
def obV : Option Bool → V
  | none => .non
  | some b => .bl b
theorem obV_is {k : Option Bool} {u : Value} (r : RelV (obV k) u) : isOb k u = true := by
  cases k with
  | none => cases (show u = Value.none from r); rfl
  | some b => cases (show u = Value.bool b from r); simp [isOb]
theorem is_obV {k : Option Bool} {u : Value} (h : isOb k u = true) : RelV (obV k) u := by
  cases k with
  | none => cases u <;> simp [isOb] at h; rfl
  | some b => cases u <;> simp [isOb] at h; subst h; rfl
/-- a dict with such keys, to be filled -/
def BD (P : Program) (w : World) (a : Addr) (kvs : List (Option Bool × V)) : HO := .ext fun h => (a == sysModules) = false ∧ kvs.length ≤ sizeLine ∧ ∃ vs, PySem.Paired (fun (p : Option Bool × V) (q : Option Bool × Value) => p.1 = q.1 ∧ RelV p.2 q.2) kvs vs ∧ h.DictOf (obKind P w) a vs
theorem bd_ok {P : Program} {w : World} {H : Hp} {h : Heap} {a : Addr} {kvs : List (Option Bool × V)} {vs : List (Option Bool × Value)} (lo : (a == sysModules) = false) (z : kvs.length ≤ sizeLine) (r : KV kvs vs) (d : h.DictOf (obKind P w) a vs) : ObjOk P w H h a (BD P w a kvs) :=
  ⟨⟨lo, z, vs, r, d⟩, let ⟨o, _, _, e, _⟩ := d; ⟨o, e⟩, fun h1 h2 ⟨l, z, vs, r, d⟩ k => ⟨l, z, vs, r, d.at k⟩⟩
theorem bd_wr {P : Program} {w : World} {a : Addr} {kvs : List (Option Bool × V)} : Wr (BD P w a kvs) := ⟨a, fun h ⟨_, _, vs, _, d⟩ => let ⟨o, es, ep, e, _, e2, _⟩ := d; ⟨o, es, ep, e, e2⟩⟩
theorem bd_raw {P : Program} {w : World} {H : Hp} {h : Heap} {a : Addr} {kvs : List (Option Bool × V)} (x : ObjOk P w H h a (BD P w a kvs)) : RawD h a (kvs.map fun p => (obV p.1, p.2)) := by
  obtain ⟨⟨lo, z, vs, kv, o, es, ep, h1, h2, h3, _, h5, _⟩, _⟩ := x
  have hp : ∀ {kvs : List (Option Bool × V)} {vs : List (Option Bool × Value)} {es : List DictEntry}, KV kvs vs → Pairs (obKind P w) es vs → PySem.Paired (fun (p : V × V) (e : DictEntry) => RelV p.1 e.key ∧ RelV p.2 e.val) (kvs.map fun p => (obV p.1, p.2)) es := by
    intro kvs vs es kv
    induction kv generalizing es with
    | nil => intro q; cases q; exact .nil
    | @cons p q ps qs hh t ih =>
      intro z
      cases z with
      | cons a1 a2 a3 =>
        refine .cons ⟨?_, ?_⟩ (ih a3)
        · show RelV (obV p.1) _
          rw [hh.1]; exact is_obV a1
        · show RelV p.2 _
          rw [a2]; exact hh.2
  have hh := hp kv h5
  have hl := hh.length
  refine ⟨lo, by rw [List.length_map]; exact z, o, es, ep, h1, h2, h3, ?_, hh⟩
  rw [hl]; simp
theorem gd_ok {P : Program} {w : World} {H : Hp} {h : Heap} {a : Addr} {ps : List (V × V)} (x : RawD h a ps) : ObjOk P w H h a (GD a ps) := by
  obtain ⟨lo, z, o, es, ep, h1, h2, h3, h4, h5⟩ := x
  exact ⟨⟨lo, o, es, ep, h1, h2, h3, by rw [h4]; exact z, h5⟩, ⟨o, h1⟩, fun h h' ⟨l, o, es, ep, e1, r⟩ k => ⟨l, o, es, ep, k _ e1, r⟩⟩
theorem sys_big {n : Nat} (h : sysModules < n) : (n == sysModules) = false := beq_eq_false_iff_ne.mpr (Ne.symm (Nat.ne_of_lt h))
/-! ### the three ways of filling -/
section
variable {P : Program} {w : World} {A : Around}
theorem obj_there {K : Type} [DecidableEq K] {knd : PySem.KeyKind P w K} {h : Heap} {a : Addr} {kvs : List (K × Value)} (d : h.DictOf knd a kvs) : ∃ q, h.get? a = some q := let ⟨q, _, _, e, _⟩ := d; ⟨q, e⟩
def fillB : Fill P w A where
  o0 := fun a => BD P w a []
  fresh := fun H h hb => bd_ok (sys_big hb) (Nat.zero_le _) .nil (Heap.DictOf.new h)
  put := fun y z D H N => ∃ kvs k, y = obV k ∧ H D = some (BD P w D kvs) ∧ kvs.length < sizeLine ∧ N (upd H D (BD P w D (putK kvs k z)))
  ok := fun Y pins σ H s y z u r D N E hP hw hA I ry rz h => by
    subst hP hw
    obtain ⟨kvs, k, rfl, hD, hz, q⟩ := h
    obtain ⟨⟨lo, z0, vs, rel, dd⟩, _⟩ := (show ObjOk Y.prog Y.w H s.heap D (BD Y.prog Y.w D kvs) from I.hok D _ hD)
    have hzv : vs.length ≤ sizeLine := by rw [← rel.length]; exact z0
    refine wpAny_dictSet_pairs (hsz := hzv) (obV_is ry) dd fun h' d2 hs => ⟨_, d_write I (by rw [hD]; trivial) hs (obj_there d2) (bd_ok lo (by have := length_putK kvs k z; omega) (KV.put rel k rz) d2), q⟩
def fillK : Fill P w A where
  o0 := fun _ => .dK []
  fresh := fun H h hb => dk_empty h hb
  put := fun y z D H N => ∃ kvs k, y = kV k ∧ H D = some (.dK kvs) ∧ kvs.length < sizeLine ∧ N (upd H D (.dK (putK kvs k z)))
  ok := fun Y pins σ H s y z u r D N E hP hw hA I ry rz h => by
    subst hP hw hA
    obtain ⟨kvs, k, rfl, hD, hz, q⟩ := h
    exact d_dictSet I hD hz ry rz fun s' I' => ⟨_, I', q⟩
def fillT (hu : A.units + 1 < cLine) : Fill P w A where
  o0 := fun _ => .dT []
  fresh := fun H h hb => dt_empty h hb
  put := fun y z D H N => ∃ kvs k b, y = .ref b ∧ H b = some (.tup (k.map kV)) ∧ H D = some (.dT kvs) ∧ kvs.length < sizeLine ∧ N (upd H D (.dT (putK kvs k z)))
  ok := fun Y pins σ H s y z u r D N E hP hw hA I ry rz h => by
    subst hP hw hA
    obtain ⟨kvs, k, b, rfl, eb, hD, hz, q⟩ := h
    obtain rfl : u = Value.ref b := ry
    obtain ⟨z0, lo, xs, rel, dd⟩ := dt_of I.hok hD
    have hzx : xs.length ≤ sizeLine := by rw [← PySem.Paired.length rel]; exact z0
    refine wpAny_dictSet_heap (hsz := hzx) (show Y.A.units < cLine from Nat.lt_of_succ_lt hu) (key_of I.hok eb) dd fun h' d2 hs => ⟨_, ?_, q⟩
    obtain ⟨o, es, ep, h1, h2, h3, h4, _, h5⟩ := d2
    refine d_write I (by rw [hD]; trivial) hs ⟨o, h1⟩ ⟨by have := length_putK kvs k z; omega, lo, _, (rel.put k eb rz).keeps fun c ys ec => ?_, o, es, ep, h1, h2, h3, h4, h5⟩
    rw [upd_ne (ne_of ec hD (fun z => nomatch z))]
    exact ec
end

/-! ### comprehensions over data -/
theorem RepK.monoK {K : PySem.W.Frag} {F F' : Hp} (e : Same F F') {ps : List (V × V)} {ds : List (D × D)} (r : RepK K F ps ds) : RepK K F' ps ds := RepK.mono e r
theorem RepA.monoA {κ : Type} {K : PySem.W.Frag} {F F' : Hp} (e : Same F F') {ps : List (κ × V)} {ds : List (κ × D)} (r : RepA K F ps ds) : RepA K F' ps ds := by
  induction r with
  | nil => exact .nil
  | cons h _ ih => exact .cons (h.mono e) ih
section
variable {κ : Type} [DecidableEq κ]
abbrev TKQ (κ : Type) := SQ → MH → (κ → MH → Prop) → Prop
/-- the turns: acc is made so far -/
def compF (t : Tgt) (tt : TTQ) (kk : TKQ κ) (tv : TQ) (s : SQ) : List D → List (κ × D) → MH → (List (κ × D) → MH → Prop) → Prop
  | [], acc, A, P => P acc A
  | x :: xs, acc, A, P => match tset t x s with
    | some s' => tt s' A fun b A1 => if b = true then kk s' A1 fun k A2 => tv s' A2 fun v A3 => acc.length < 100000 ∧ compF t tt kk tv s xs (putA acc k v) A3 P else compF t tt kk tv s xs acc A1 P
    | none => False
def qFill (wi : TAQ) (t : Tgt) (tt : TTQ) (kk : TKQ κ) (tv : TQ) (vs : List Nat) : SQ → MH → (List (κ × D) → MH → Prop) → Prop := fun s A P => wi s A fun ds A1 => compF t tt kk tv (wipeQ s vs) ds [] A1 P
theorem lift_fill {X : Cx} {T : Tz} {wi : TAQ} {t : Tgt} {tt : TTQ} {kk : TKQ κ} {tv : TQ} {tkV : TE} {vs : List Nat} (Z : Fill X.prog X.w X.A) (ob : Addr → List (κ × V) → HO) (hob0 : ∀ D, Z.o0 D = ob D []) (hwr : ∀ D kvs, Wr (ob D kvs)) (krel : V → κ → Hp → Prop) (kmono : ∀ {y k F F'}, Same F F' → krel y k F → krel y k F')
    (hput : ∀ {y z k D H F kvs N}, Same F H → krel y k F → H D = some (ob D kvs) → kvs.length < sizeLine → N (upd H D (ob D (putK kvs k z))) → Z.put y z D H N)
    (hkey : ∀ {σ H F A s} {P : κ → MH → Prop} {R : VK}, Rs X.K F s σ → RS X.K T F A H → kk s A P → (∀ k A' y H' F', P k A' → Go X.K T F A H F' A' H' → krel y k F' → R y H') → tkV σ H R)
    (hv : ∀ j ∈ tix t, j ∈ vs) {σ : L2.St} {H : Hp} {Q : VK} {F : Hp} {A : MH} {s : SQ} {P : List (κ × D) → MH → Prop} (hs : Rs X.K F s σ) (hR : RS X.K T F A H) (ht : qFill wi t tt kk tv vs s A P)
    (fin : ∀ acc A1 H1 F1 A' H' F' D ps, P acc A' → Go X.K T F A H F1 A1 H1 → Go X.K T F1 A1 H1 F' A' H' → H1 D = none → F' D = none → A' D = none → H' D = some (ob D ps) → RepA X.K F' ps acc → Q (.ref D) H') :
    tFill Z (liftI X.K T wi) (tgG X.K t) (liftT X.K T tt) tkV (lift X.K T tv) vs σ H Q := by
  refine ⟨F, A, s, hs, hR, _, ht, fun ds A1 H1 F1 J p g1 S => fun D hD => ?_⟩
  have nF1 : F1 D = none := (g1.rs.free hD).1
  have nA1 : A1 D = none := (g1.rs.free hD).2
  refine ⟨fun i m0 H' => ∃ F' A' acc ps, Go X.K T F1 A1 H1 F' A' H' ∧ F' D = none ∧ A' D = none ∧ H' D = some (ob D ps) ∧ RepA X.K F' ps acc ∧ m0 = ds.length - i ∧ i ≤ ds.length ∧ compF t tt kk tv (wipeQ s vs) (ds.drop i) acc A' P,
    ⟨_, F1, A1, [], [], g1.rs.go.beside hD, nF1, nA1, by rw [upd_same, hob0], .nil, rfl, Nat.zero_le _, p⟩, ?_⟩
  rintro i m0 H2 ⟨F2, A2, acc, ps, g2, n1, n2, hD2, rr, rfl, hi, q⟩
  by_cases hl : i < ds.length
  · refine .inr ⟨S.go i F2 A2 H2 hl g2.rs g2.ext, fun H' => ∃ F' A' acc ps, Go X.K T F1 A1 H1 F' A' H' ∧ F' D = none ∧ A' D = none ∧ H' D = some (ob D ps) ∧ RepA X.K F' ps acc ∧ compF t tt kk tv (wipeQ s vs) (ds.drop (i + 1)) acc A' P,
      fun H' ⟨F', A', acc, ps, h1, h2, h3, h4, h5, h6⟩ => ⟨ds.length - (i + 1), by omega, F', A', acc, ps, h1, h2, h3, h4, h5, rfl, hl, h6⟩, fun x H3 hy => ?_⟩
    obtain ⟨d, F3, hd, g3, r3⟩ := S.yld i F2 A2 H2 x H3 hl hy g2.rs g2.ext
    obtain ⟨a1, a2, a3⟩ := g3.kp D _ hD2 n2 (hwr D ps).plain
    have hd' : ds[i] = d := by rw [List.getElem?_eq_getElem hl] at hd; exact Option.some.inj hd
    rw [List.drop_eq_getElem_cons hl, hd'] at q
    have hsw : Rs X.K F3 (wipeQ s vs) (L2.wipe σ vs) := ((hs.mono g1.ext).mono (g2.trans g3).ext).wipe vs
    unfold compF at q
    cases hq : tset t d (wipeQ s vs) with
    | none => rw [hq] at q; exact q.elim
    | some s' =>
      rw [hq] at q
      refine tg_ok g3.rs t hsw r3 hq fun σ' h1 h2 => ⟨by rw [h2.wipe hv, wipe_wipe], ?_⟩
      refine ⟨F3, A2, s', h1, g3.rs, _, q, fun b A4 H4 F4 p4 g4 => ?_⟩
      obtain ⟨b1, b2, b3⟩ := g4.kp D _ a1 a2 (hwr D ps).plain
      cases b with
      | true =>
        rw [if_pos rfl]
        rw [if_pos rfl] at p4
        refine hkey (h1.mono g4.ext) g4.rs p4 fun k A5 y H5 F5 p5 g5 kr => ?_
        obtain ⟨c1, c2, c3⟩ := g5.kp D _ b1 b2 (hwr D ps).plain
        refine ⟨F5, A5, s', h1.mono (g4.trans g5).ext, g5.rs, _, p5, fun v A6 z H6 F6 p6 g6 r6 => ?_⟩
        obtain ⟨d1, d2, d3⟩ := g6.kp D _ c1 c2 (hwr D ps).plain
        have g7 := (((g2.trans g3).trans g4).trans g5).trans g6
        have e7 := (((g3.trans g4).trans g5).trans g6).ext
        refine hput g6.rs.sub (kmono g6.ext kr) d1 (by rw [rr.len]; exact Evl.sz_lt p6.1) ⟨F6, A6, _, _, g7.aside hD (d3 (c3 (b3 (a3 n1)))) d2 d1 (hwr D ps), d3 (c3 (b3 (a3 n1))), d2, upd_same, RepA.put r6 (rr.monoA e7), p6.2⟩
      | false =>
        rw [if_neg Bool.false_ne_true]
        rw [if_neg Bool.false_ne_true] at p4
        exact ⟨F4, A4, acc, ps, (g2.trans g3).trans g4, b3 (a3 n1), b2, b1, rr.monoA (g3.trans g4).ext, p4⟩
  · refine .inl ⟨S.stop i F2 A2 H2 (by omega) g2.rs g2.ext, ?_⟩
    rw [List.drop_eq_nil_of_le (by omega)] at q
    exact fin acc A1 H1 F1 A2 H2 F2 D ps q g1 g2 hD n1 n2 hD2 rr
end
section
variable {X : Cx} {T : Tz} {kx vx tg iter e : Expr} {ifs es : List Expr} {scope : Scope} {own : List (Str × Nat)} {pos : Pos} {wi : TAQ} {t : Tgt} {tt : TTQ} {tk tv te : TQ} {ta : TAQ}
/-- the block's parts -/
structure PartsQ (X : Cx) (T : Tz) (scope : Scope) (tg : Expr) (ifs : List Expr) (vx : Expr) (t : Tgt) (tt : TTQ) (tv : TQ) : Prop where
  g : ∀ (s : Shared) (H : Hp) (C : Addr) (cl : List (Str × Addr)) (fp : List Addr), PGQ (X.blk s H scope (compEnvC scope cl C X.env) fp) tg t
  i : ∀ (s : Shared) (H : Hp) (C : Addr) (cl : List (Str × Addr)) (fp : List Addr), PTsQ (X.blk s H scope (compEnvC scope cl C X.env) fp) T ifs tt
  v : ∀ (s : Shared) (H : Hp) (C : Addr) (cl : List (Str × Addr)) (fp : List Addr), PQ (X.blk s H scope (compEnvC scope cl C X.env) fp) T vx tv
def kkK (tk : TQ) : TKQ Key := fun s A P => tk s A fun d A1 => okQ (keyD d) fun k => P k A1
def obD : D → Option (Option Bool)
  | .non => some none
  | .bl b => some (some b)
  | _ => none
def kkB (tk : TQ) : TKQ (Option Bool) := fun s A P => tk s A fun d A1 => okQ (obD d) fun k => P k A1
def kkT (ta : TAQ) : TKQ (List Key) := fun s A P => ta s A fun ds A1 => ds.length ≤ 100000 ∧ okQ (keysT ds) fun k => P k A1
/-- {k: v for ..}: keys ints, texts; a dict that may change -/
def qDcK (wi : TAQ) (t : Tgt) (tt : TTQ) (tk tv : TQ) (vs : List Nat) : TQ := fun s A P => qFill wi t tt (kkK tk) tv vs s A fun acc A1 => newD true acc A1 P
theorem pq_dcK (hc : X.calm = true) (hN : X.N.Nodup) (hi : PIQ X T tg iter wi) (ok : BlkOk X.N X.env.scope scope own) (pp : PartsQ X T scope tg ifs vx t tt tv)
    (pk : ∀ (s : Shared) (H : Hp) (C : Addr) (cl : List (Str × Addr)) (fp : List Addr), PQ (X.blk s H scope (compEnvC scope cl C X.env) fp) T kx tk) (hv : ∀ j ∈ tix t, j ∈ own.map (·.2) := by decide) (hs : ∀ x, foldedSetIterable iter X.env x = pure x := by intro _; rfl) :
    PQ X T (.DictComp kx vx [⟨tg, iter, ifs, 0⟩] scope pos) (qDcK wi t tt tk tv (own.map (·.2))) :=
  ⟨(pe_fill (tk := lift X.K T tk) fillK hc hN hi.pi ok ⟨fun s H C cl fp => (pp.g s H C cl fp).pg, fun s H C cl fp => (pp.i s H C cl fp).pt, fun s H C cl fp => (pk s H C cl fp).pe, fun s H C cl fp => (pp.v s H C cl fp).pe⟩ hs).wk fun σ H Q h => by
    obtain ⟨F, A, s, hs, hR, P, ht, k⟩ := h
    refine lift_fill (T := T) (kk := kkK tk) fillK (fun _ kvs => .dK kvs) (fun _ => rfl) (fun _ _ => trivial) (fun y k F => y = kV k) (fun _ h => h) (fun _ kr hD hz n => ⟨_, _, kr, hD, hz, n⟩) (fun {σ H F A s P R} hs hR ht kk => ?_) hv hs hR ht fun acc A1 H1 F1 A' H' F' D ps p g1 g2 hD n1 n2 h1 r => ?_
    · refine ⟨F, A, s, hs, hR, _, ht, fun d A' v H' F' p g r => ?_⟩
      cases e : keyD d with
      | none => rw [e] at p; exact p.elim
      | some kx => rw [e] at p; exact kk kx A' v H' F' p g (keyD_rep r e)
    · unfold newD at p
      rw [if_pos rfl] at p
      exact k _ _ _ _ _ (p D n2) (g1.trans (g2.own hD n1 ⟨ps, h1, r.kv⟩)) (.mut D)⟩
/-- {(a, b): v for ..} -/
def qDcT (wi : TAQ) (t : Tgt) (tt : TTQ) (ta : TAQ) (tv : TQ) (vs : List Nat) : TQ := fun s A P => qFill wi t tt (kkT ta) tv vs s A fun acc A1 => ∀ a, A1 a = none → P (.mut a) (A1.set a (.dit acc))
theorem pq_dcT {kk : Nat} {kp : Pos} (hu : X.A.units + 1 < cLine) (hc : X.calm = true) (hN : X.N.Nodup) (hi : PIQ X T tg iter wi) (ok : BlkOk X.N X.env.scope scope own) (pp : PartsQ X T scope tg ifs vx t tt tv)
    (pk : ∀ (s : Shared) (H : Hp) (C : Addr) (cl : List (Str × Addr)) (fp : List Addr), PAQ (X.blk s H scope (compEnvC scope cl C X.env) fp) T es ta) (hv : ∀ j ∈ tix t, j ∈ own.map (·.2) := by decide) (hs : ∀ x, foldedSetIterable iter X.env x = pure x := by intro _; rfl) :
    PQ X T (.DictComp (.Tuple es kk kp) vx [⟨tg, iter, ifs, 0⟩] scope pos) (qDcT wi t tt ta tv (own.map (·.2))) :=
  ⟨(pe_fill (tk := tTup (liftA X.K T ta)) (fillT hu) hc hN hi.pi ok ⟨fun s H C cl fp => (pp.g s H C cl fp).pg, fun s H C cl fp => (pp.i s H C cl fp).pt, fun s H C cl fp => pe_tup (pk s H C cl fp).pa, fun s H C cl fp => (pp.v s H C cl fp).pe⟩ hs).wk fun σ H Q h => by
    obtain ⟨F, A, s, hs, hR, P, ht, k⟩ := h
    refine lift_fill (T := T) (kk := kkT ta) (fillT hu) (fun _ kvs => .dT kvs) (fun _ => rfl) (fun _ _ => trivial) (fun y k F => ∃ b, y = .ref b ∧ F b = some (.tup (k.map kV))) (fun e ⟨b, h1, h2⟩ => ⟨b, h1, e _ _ h2⟩) (fun sm ⟨b, h1, h2⟩ hD hz n => ⟨_, _, b, h1, sm _ _ h2, hD, hz, n⟩) (fun {σ H F A s P R} hs hR ht kk => ?_) hv hs hR ht fun acc A1 H1 F1 A' H' F' D ps p g1 g2 hD n1 n2 h1 r => ?_
    · refine ⟨F, A, s, hs, hR, _, ht, fun ds A' vs H' F' p g r => ⟨by rw [r.length]; exact Evl.sz_of p.1, fun q hq => ?_⟩⟩
      replace p := p.2
      cases e : keysT ds with
      | none => rw [e] at p; exact p.elim
      | some ks =>
        rw [e] at p
        have ev := keysT_rep r e
        subst ev
        have g3 := g.rs.goF (u := .tup (ks.map kV)) hq trivial
        exact kk ks A' _ _ _ p (g.trans g3) ⟨q, rfl, upd_same⟩
    · exact k _ _ _ _ _ (p D n2) (g1.trans (g2.own hD n1 ⟨ps, h1, r.kt⟩)) (.mut D)⟩
/-- {b: v for ..}, keys bools or None: read only from then on -/
def qDcB (wi : TAQ) (t : Tgt) (tt : TTQ) (tk tv : TQ) (vs : List Nat) : TQ := fun s A P => qFill wi t tt (kkB tk) tv vs s A fun acc A1 => P (.gdc (acc.map fun p => ((match p.1 with | none => D.non | some b => D.bl b), p.2))) A1
theorem obD_rep {K : PySem.W.Frag} {F : Hp} {v : V} {d : D} {k : Option Bool} (r : Rep K F v d) (h : obD d = some k) : v = obV k := by
  cases r with
  | non => simp only [obD, Option.some.injEq] at h; subst h; rfl
  | bl b => simp only [obD, Option.some.injEq] at h; subst h; rfl
  | _ => simp [obD] at h
theorem RepA.ob {K : PySem.W.Frag} {F : Hp} {ps : List (Option Bool × V)} {ds : List (Option Bool × D)} (r : RepA K F ps ds) : RepK K F (ps.map fun p => (obV p.1, p.2)) (ds.map fun p => ((match p.1 with | none => D.non | some b => D.bl b), p.2)) := by
  induction r with
  | nil => exact .nil
  | @cons n v d ps ds h _ ih => exact .cons (by cases n with | none => exact .non | some b => exact .bl b) h ih
theorem pq_dcB (hc : X.calm = true) (hN : X.N.Nodup) (hi : PIQ X T tg iter wi) (ok : BlkOk X.N X.env.scope scope own) (pp : PartsQ X T scope tg ifs vx t tt tv)
    (pk : ∀ (s : Shared) (H : Hp) (C : Addr) (cl : List (Str × Addr)) (fp : List Addr), PQ (X.blk s H scope (compEnvC scope cl C X.env) fp) T kx tk) (hv : ∀ j ∈ tix t, j ∈ own.map (·.2) := by decide) (hs : ∀ x, foldedSetIterable iter X.env x = pure x := by intro _; rfl) :
    PQ X T (.DictComp kx vx [⟨tg, iter, ifs, 0⟩] scope pos) (qDcB wi t tt tk tv (own.map (·.2))) :=
  ⟨(pe_fill (tk := lift X.K T tk) fillB hc hN hi.pi ok ⟨fun s H C cl fp => (pp.g s H C cl fp).pg, fun s H C cl fp => (pp.i s H C cl fp).pt, fun s H C cl fp => (pk s H C cl fp).pe, fun s H C cl fp => (pp.v s H C cl fp).pe⟩ hs).ghost fun pins σ H Q h => by
    obtain ⟨F, A, s, hs, hR, P, ht, k⟩ := h
    refine lift_fill (T := T) (kk := kkB tk) fillB (fun a kvs => BD X.prog X.w a kvs) (fun _ => rfl) (fun _ _ => bd_wr) (fun y k F => y = obV k) (fun _ h => h) (fun _ kr hD hz n => ⟨_, _, kr, hD, hz, n⟩) (fun {σ H F A s P R} hs hR ht kk => ?_) hv hs hR ht fun acc A1 H1 F1 A' H' F' D ps p g1 g2 hD n1 n2 h1 r => fun s' I' => ?_
    · refine ⟨F, A, s, hs, hR, _, ht, fun d A' v H' F' p g r => ?_⟩
      cases e : obD d with
      | none => rw [e] at p; exact p.elim
      | some kx => rw [e] at p; exact kk kx A' v H' F' p g (obD_rep r e)
    · have ok := I'.hok D _ h1
      have raw := bd_raw ok
      obtain ⟨lo, z, o, es, ep, e1, e2⟩ := raw
      have I2 : Inv X pins σ (upd H' D (GD D (ps.map fun p => (obV p.1, p.2)))) { s' with heap := s'.heap, toks := s'.toks } := d_write I' (by rw [h1]; trivial) (Heap.SameBut.refl _ _) ⟨o, e1⟩ (gd_ok ⟨lo, z, o, es, ep, e1, e2⟩)
      refine ⟨_, I2, ?_⟩
      have g3 : Go X.K T F1 A1 H1 F' A' (upd H' D (GD D (ps.map fun p => (obV p.1, p.2)))) := g2.aside hD n1 n2 h1 bd_wr
      obtain ⟨g4, e4⟩ := g3.froze (u := GD D (ps.map fun p => (obV p.1, p.2))) hD n1 n2 upd_same trivial
      exact k _ _ _ _ _ p (g1.trans g4) (.gdc upd_same (r.ob.monoK e4))⟩
end
end Qd


set_option Elab.async false
set_option linter.all false
set_option maxRecDepth 100000
set_option maxHeartbeats 4000000
/-! Second layer, part R: dict displays; enumerate of a list or tuple. -/
namespace Qd
open PySem L2

abbrev TPQ := SQ → MH → (List (D × D) → MH → Prop) → Prop
def qpNil : TPQ := fun _ A P => P [] A
def qpCons (tk tv : TQ) (tr : TPQ) : TPQ := fun s A P => tk s A fun k A1 => tv s A1 fun v A2 => tr s A2 fun ps A3 => P ((k, v) :: ps) A3
/-- related pairs -/
def liftPs (K : PySem.W.Frag) (T : Tz) (t : TPQ) : L2.St → Hp → (List (V × V) → Hp → Prop) → Prop := fun σ H Q => ∃ F A s, Rs K F s σ ∧ RS K T F A H ∧ ∃ P : List (D × D) → MH → Prop, t s A P ∧ ∀ ps A' vs H' F', P ps A' → Go K T F A H F' A' H' → RepK K F' vs ps → Q vs H'
structure PPQ (X : Cx) (T : Tz) (pos : Pos) (keys : List (Option Expr)) (values : List Expr) (t : TPQ) : Prop where
  trs : ∃ trs, PPs X pos keys values trs ∧ ∀ σ H Q, liftPs X.K T t σ H Q → tPairs trs σ H Q
section
variable {X : Cx} {T : Tz} {pos : Pos} {k v : Expr} {ks : List (Option Expr)} {vs : List Expr} {tk tv : TQ} {tr : TPQ}
theorem ppq_nil : PPQ X T pos [] [] qpNil := ⟨[], pps_nil, fun σ H Q h => by
  obtain ⟨F, A, s, hs, hR, P, ht, k⟩ := h
  exact k _ _ _ _ _ ht hR.go .nil⟩
theorem ppq_cons (hk : PQ X T k tk) (hv : PQ X T v tv) (hr : PPQ X T pos ks vs tr) : PPQ X T pos (some k :: ks) (v :: vs) (qpCons tk tv tr) := by
  obtain ⟨trs, h1, h2⟩ := hr.trs
  refine ⟨_, pps_cons hk.pe hv.pe h1, fun σ H Q h => ?_⟩
  obtain ⟨F, A, s, hs, hR, P, ht, kk⟩ := h
  refine ⟨F, A, s, hs, hR, _, ht, fun x A1 xv H1 F1 p1 g1 r1 => ?_⟩
  refine ⟨F1, A1, s, hs.mono g1.ext, g1.rs, _, p1, fun y A2 yv H2 F2 p2 g2 r2 => ?_⟩
  exact h2 _ _ _ ⟨F2, A2, s, (hs.mono g1.ext).mono g2.ext, g2.rs, _, p2, fun ps A3 ws H3 F3 p3 g3 r3 => kk _ _ _ _ _ p3 ((g1.trans g2).trans g3) (.cons (r1.mono (g2.trans g3).ext) (r2.mono g3.ext) r3)⟩
/-! keys ints and texts -/
def keyPs : List (D × D) → Option (List (Key × D))
  | [] => some []
  | (k, d) :: r => match keyD k, keyPs r with | some k, some ps => some ((k, d) :: ps) | _, _ => none
theorem keyPs_rep {K : PySem.W.Frag} {F : Hp} : ∀ {ds : List (D × D)} {vs : List (V × V)} {kvs : List (Key × D)}, RepK K F vs ds → keyPs ds = some kvs → ∃ ws, vs = ws.map (fun kv => (kV kv.1, kv.2)) ∧ RepA K F ws kvs ∧ ws.length = ds.length
  | [], _, kvs, .nil, h => by simp only [keyPs, Option.some.injEq] at h; subst h; exact ⟨[], rfl, .nil, rfl⟩
  | (c, d) :: ds, _, kvs, .cons a b r, h => by
    simp only [keyPs] at h
    split at h
    · rename_i k ps h1 h2
      simp only [Option.some.injEq] at h; subst h
      obtain ⟨ws, e, r2, l⟩ := keyPs_rep r h2
      refine ⟨(k, _) :: ws, ?_, .cons b r2, by simp [l]⟩
      rw [List.map_cons, ← e, keyD_rep a h1]
    · cases h
def qDisp (tr : TPQ) : TQ := fun s A P => tr s A fun ps A1 => ps.length ≤ 15 ∧ okQ (keyPs ps) fun kvs => newD true (mergeA [] kvs) A1 P
theorem pq_disp (h : PPQ X T pos ks vs tr) (hall : ks.all (·.isSome) = true := by rfl) (hl : ks.length = vs.length := by rfl) (h0 : ks ≠ [] := by simp) (h15 : ks.length ≤ 15 := by decide) : PQ X T (.Dict ks vs pos) (qDisp tr) := by
  obtain ⟨trs, h1, h2⟩ := h.trs
  refine ⟨(pe_disp h1 hall hl h0 h15).wk fun σ H Q hh p hp => ?_⟩
  obtain ⟨F, A, s, hs, hR, P, ht, k⟩ := hh
  have nF := (hR.free hp).1
  have nA := (hR.free hp).2
  have gB := hR.goB (u := .dK []) hp
  refine h2 _ _ _ ⟨F, A, s, hs, gB.rs, _, ht, fun ps A' ws H' F' q g r => ?_⟩
  obtain ⟨b1, b2, b3⟩ := g.kp p _ upd_same nA trivial
  refine ⟨b1, ?_⟩
  cases e : keyPs ps with
  | none => rw [e] at q; exact q.2.elim
  | some kvs =>
    rw [e] at q
    obtain ⟨us, e2, r2, l⟩ := keyPs_rep r e
    refine ⟨us, e2, by rw [l]; exact q.1, ?_⟩
    have q2 := q.2
    unfold newD at q2
    simp only [okQ_some, if_true] at q2
    have gg : Go X.K T F A H F' A' H' := gB.trans g
    have g2 := gg.aside (u := .dK (mergeK [] us)) hp (b3 nF) b2 b1 trivial
    exact k _ _ _ _ _ (q2 p b2) (g2.own hp (b3 nF) ⟨_, upd_same, (r2.merge .nil).kv⟩) (.mut p)

/-! one pair, the key a bool or None -/
def qDispB (tk tv : TQ) : TQ := fun s A P => tk s A fun k A1 => tv s A1 fun v A2 => (obD k).isSome = true ∧ P (.gdc [(k, v)]) A2
theorem pq_dispB (hk : PQ X T k tk) (hv : PQ X T v tv) : PQ X T (.Dict [some k] [v] pos) (qDispB tk tv) := ⟨⟨fun pins s σ H Q I h => by
  obtain ⟨F, A, sl, hs, hR, P, ht, kk⟩ := h
  have hp : H s.heap.objs.size = none := I.hok.fresh (Nat.le_refl _)
  have nF := (hR.free hp).1
  have nA := (hR.free hp).2
  have I1 : Inv X pins σ (upd H s.heap.objs.size (BD X.prog X.w s.heap.objs.size [])) { s with heap := s.heap.push { cls := .type "dict", data := .dict #[] } } := I.laid (t' := s.toks) (fun _ _ q => Heap.get?_push_of_some _ q) (Nat.le_refl _) (bd_ok (sys_big I.big) (Nat.zero_le _) .nil (Heap.DictOf.new s.heap))
  have gB := hR.goB (u := BD X.prog X.w s.heap.objs.size []) hp
  refine wpAny_Dict_walk (knd := obKind X.prog X.w) (keys := [some k]) (values := [v]) rfl rfl (by simp) (by simp) ?_
  refine pairTrees_cons_walk (thn (hk.pe.run pins _ σ _ _ I1 ⟨F, A, sl, hs, gB.rs, _, ht, fun x A1 xv H1 F1 p1 g1 r1 => (show (fun xv H1 => ∃ F1 A1 x, Rep X.K F1 xv x ∧ Go X.K T F A _ F1 A1 H1 ∧ tv sl A1 fun v A2 => (obD x).isSome = true ∧ P (.gdc [(x, v)]) A2) xv H1 from ⟨F1, A1, x, r1, g1, p1⟩)⟩) fun u s1 ⟨xv, H1, I2, ru, F1, A1, x, r1, g1, p1⟩ => ?_)
  refine thn (hv.pe.run pins _ σ _ _ I2 ⟨F1, A1, sl, hs.mono g1.ext, g1.rs, _, p1, fun y A2 yv H2 F2 p2 g2 r2 => (show (fun yv H2 => ∃ F2 A2 y, Rep X.K F2 yv y ∧ Go X.K T F1 A1 H1 F2 A2 H2 ∧ (obD x).isSome = true ∧ P (.gdc [(x, y)]) A2) yv H2 from ⟨F2, A2, y, r2, g2, p2⟩)⟩) fun u2 s2 ⟨yv, H2, I3, ru2, F2, A2, y, r2, g2, hb, p2⟩ => ?_
  refine pairTrees_nil_walk ?_
  obtain ⟨ok, eo⟩ := Option.isSome_iff_exists.mp hb
  have ex := obD_rep r1 eo
  subst ex
  obtain ⟨b1, b2, b3⟩ := g1.kp _ _ upd_same nA bd_wr.plain
  obtain ⟨c1, c2, c3⟩ := g2.kp _ _ b1 b2 bd_wr.plain
  obtain ⟨⟨lo, z, vs0, rel, dd⟩, _⟩ := (show ObjOk X.prog X.w H2 s2.heap _ (BD X.prog X.w s.heap.objs.size []) from I3.hok _ _ c1)
  cases rel
  refine ⟨[(ok, u2)], ⟨obV_is ru, rfl, trivial⟩, dd, fun h' d' sb => ?_⟩
  have raw : RawD h' s.heap.objs.size [(obV ok, yv)] := bd_raw (H := H) (kvs := [(ok, yv)]) (bd_ok lo (by rw [sizeLine_eq]; simp) (.cons ⟨rfl, ru2⟩ .nil) d')
  have I4 : Inv X pins σ (upd H2 s.heap.objs.size (GD s.heap.objs.size [(obV ok, yv)])) { s2 with heap := h', toks := s2.toks + [(u, u2)].length } := d_write I3 (by rw [c1]; trivial) sb (obj_there d') (gd_ok raw)
  refine ⟨.ref _, _, I4, rfl, ?_⟩
  have gg : Go X.K T F A H F2 A2 H2 := (gB.trans g1).trans g2
  have g3 := gg.aside (u := GD s.heap.objs.size [(obV ok, yv)]) hp (c3 (b3 nF)) c2 c1 bd_wr
  obtain ⟨g4, e4⟩ := g3.froze (u := GD s.heap.objs.size [(obV ok, yv)]) hp (c3 (b3 nF)) c2 upd_same trivial
  exact kk _ _ _ _ _ p2 g4 (.gdc upd_same (.cons (r1.mono (g2.ext.trans e4)) (r2.mono e4) .nil))⟩⟩
/-! one pair, the key a tuple of ints and texts -/
def qDispT (ta : TAQ) (tv : TQ) : TQ := fun s A P => ta s A fun ys A1 => ys.length ≤ 100000 ∧ (keysT ys).isSome = true ∧ tv s A1 fun v A2 => P (.gdc [(.tup ys, v)]) A2
theorem keyed_raw {P : Program} {w : World} {h : Heap} {a b : Addr} {k : List Key} {y : V} {r : Value} (lo : (a == sysModules) = false) (ry : RelV y r) (d : h.DictOfH (tupleKind (mixKind P w)) a [(k, b, r)]) : RawD h a [(.ref b, y)] := by
  obtain ⟨o, es, ep, h1, h2, h3, h4, _, _⟩ := d
  have e : es.toList.length = 1 := by rw [h4]; rfl
  refine ⟨lo, by rw [sizeLine_eq]; simp, o, es, ep, h1, h2, h3, by simpa using e, ?_⟩
  rw [h4]
  exact .cons ⟨rfl, ry⟩ .nil
theorem disp_one {A : Around} {E : Value → Shared → Prop} {P : Program} {w : World} {s : Shared} {env : Env} {ke ve : Expr} {Q : Value → Shared → Prop} (hu : A.units < cLine)
    (h : wpAny (model P w) A (eval ke env) (fun kv s₁ => wpAny (model P w) A (eval ve env) (fun vv s₂ => ∃ k b, kv = .ref b ∧ (tupleKind (mixKind P w)).is s₂.heap k b ∧ s₂.heap.DictOfH (tupleKind (mixKind P w)) s.heap.objs.size [] ∧
      ∀ h' tk, h'.DictOfH (tupleKind (mixKind P w)) s.heap.objs.size [(k, b, vv)] → Heap.SameBut s.heap.objs.size s₂.heap h' → Q (.ref s.heap.objs.size) { s₂ with heap := h', toks := tk }) E s₁) E { s with heap := s.heap.push { cls := .type "dict", data := .dict #[] } }) :
    wpAny (model P w) A (eval (.Dict [some ke] [ve] pos) env) Q E s := by
  rw [arm_eval_Dict, zip_pairTrees [some ke] [ve] env pos rfl rfl, dictDisplay_pairs (pairTrees [some ke] [ve] env pos) (by simp [pairTrees]) (by simp [pairTrees])]
  refine wpAny_bind (wpAny_standAt (wpAny_bind (wpAny_subDictH (knd := tupleKind (mixKind P w)) hu (by simp [pairTrees]) (pairTrees_cons_walk (wpAny_mono h (fun kv s1 h1 => wpAny_mono h1 (fun vv s2 h2 => pairTrees_nil_walk ?_) fun _ _ e => e) fun _ _ e => e)))))
  obtain ⟨k, b, rfl, h3, h4, h5⟩ := h2
  exact ⟨[(k, b, vv)], ⟨rfl, rfl, h3, trivial⟩, h4, fun h' tk a e => wpAny_pure (h5 h' tk a e)⟩
theorem pq_dispT {es : List Expr} {kk : Nat} {kp : Pos} {ta : TAQ} (hu : X.A.units + 1 < cLine) (hk : PAQ X T es ta) (hv : PQ X T v tv) : PQ X T (.Dict [some (.Tuple es kk kp)] [v] pos) (qDispT ta tv) := ⟨⟨fun pins s σ H Q I h => by
  obtain ⟨F, A, sl, hs, hR, P, ht, kk'⟩ := h
  have hp : H s.heap.objs.size = none := I.hok.fresh (Nat.le_refl _)
  have nF := (hR.free hp).1
  have nA := (hR.free hp).2
  have I1 : Inv X pins σ (upd H s.heap.objs.size (.dT [])) { s with heap := s.heap.push { cls := .type "dict", data := .dict #[] } } := I.laid (t' := s.toks) (fun _ _ q => Heap.get?_push_of_some _ q) (Nat.le_refl _) (dt_empty s.heap I.big)
  have gB := hR.goB (u := .dT []) hp
  refine disp_one (show X.A.units < cLine from Nat.lt_of_succ_lt hu) ?_
  have pT : PE X (.Tuple es kk kp) (tTup (liftA X.K T ta)) := pe_tup hk.pa
  refine thn (pT.run pins _ σ _ (fun xv H1 => ∃ (F1 : Hp) (A1 : MH) (ys : List D) (ks : List Key) (q : Addr), xv = .ref q ∧ F1 q = some (.tup (ks.map kV)) ∧ Reps X.K F1 (ks.map kV) ys ∧ Go X.K T F A (upd H s.heap.objs.size (.dT [])) F1 A1 H1 ∧ tv sl A1 fun v A2 => P (.gdc [(.tup ys, v)]) A2) I1 ⟨F, A, sl, hs, gB.rs, _, ht, fun ys A1 vs H1 F1 p1 g1 r1 => ⟨by rw [r1.length]; exact Evl.sz_of p1.1, fun q hq => ?_⟩⟩) fun u s1 ⟨xv, H1, I2, ru, F1, A1, ys, ks, q, ex, hq, rys, g1, p1⟩ => ?_
  · obtain ⟨ks, ek⟩ := Option.isSome_iff_exists.mp p1.2.1
    have ev := keysT_rep r1 ek
    subst ev
    have g3 := g1.rs.goF (u := .tup (ks.map kV)) hq trivial
    exact ⟨_, _, ys, ks, q, rfl, upd_same, r1.mono g3.ext, g1.trans g3, p1.2.2⟩
  subst ex
  obtain rfl : u = Value.ref q := ru
  refine thn (hv.pe.run pins _ σ _ (fun yv H2 => ∃ F2 A2 y, Rep X.K F2 yv y ∧ Go X.K T F1 A1 H1 F2 A2 H2 ∧ P (.gdc [(.tup ys, y)]) A2) I2 ⟨F1, A1, sl, hs.mono g1.ext, g1.rs, _, p1, fun y A2 yv H2 F2 p2 g2 r2 => ⟨F2, A2, y, r2, g2, p2⟩⟩) fun u2 s2 ⟨yv, H2, I3, ru2, F2, A2, y, r2, g2, p2⟩ => ?_
  obtain ⟨b1, b2, b3⟩ := g1.kp _ _ upd_same nA trivial
  obtain ⟨c1, c2, c3⟩ := g2.kp _ _ b1 b2 trivial
  obtain ⟨z, lo, xs0, rel, dd⟩ := dt_of I3.hok c1
  cases rel
  refine ⟨ks, q, rfl, key_of I3.hok (g2.rs.sub _ _ (g2.ext _ _ hq)), dd, fun h' tk d' sb => ?_⟩
  have raw := keyed_raw (y := yv) lo ru2 d'
  have hex : ∃ o, h'.get? s.heap.objs.size = some o := let ⟨o, _, _, e, _⟩ := d'; ⟨o, e⟩
  have I4 : Inv X pins σ (upd H2 s.heap.objs.size (GD s.heap.objs.size [(.ref q, yv)])) { s2 with heap := h', toks := tk } := d_write I3 (by rw [c1]; trivial) sb hex (gd_ok raw)
  refine ⟨.ref _, _, I4, rfl, ?_⟩
  have gg : Go X.K T F A H F2 A2 H2 := (gB.trans g1).trans g2
  have g3 := gg.aside (u := GD s.heap.objs.size [(.ref q, yv)]) hp (c3 (b3 nF)) c2 c1 trivial
  obtain ⟨g4, e4⟩ := g3.froze (u := GD s.heap.objs.size [(.ref q, yv)]) hp (c3 (b3 nF)) c2 upd_same trivial
  exact kk' _ _ _ _ _ p2 g4 (.gdc upd_same (.cons (.tup (.of ((g2.ext.trans e4) _ _ hq)) (rys.mono (g2.ext.trans e4))) (r2.mono e4) .nil))⟩⟩
end

/-! ### enumerate of a tuple -/
set_option maxHeartbeats 1000000 in
theorem meets_enum1 {v : Value} {o : Obj} {H : Heap → Prop} (B : Begins v o H) :
    Meets (Builtin.«enumerate.__new__» ⟨[.type "enumerate", v], []⟩) (fun _ R s => H s.heap ∧
      R (.ok (.ret (.ref (s.heap.objs.size + 1)))) { s with heap := (s.heap.push o).push { cls := .type "enumerate", data := .fields #[.none, .bool false, .ref s.heap.objs.size, rawInt 0, .none, .none] } }) :=
  .of_wp fun prog w A R s hs => by
    obtain ⟨hp, g, d, tk, os⟩ := s
    obtain ⟨h1, h2⟩ := hs
    have e1 : (hp.push o).objs.size = hp.objs.size + 1 := Heap.size_push ..
    have h2' : R (.ok (.ret (.ref (hp.push o).objs.size))) ⟨(hp.push o).push { cls := .type "enumerate", data := .fields #[.none, .bool false, .ref hp.objs.size, rawInt 0, .none, .none] }, g, d, tk, os⟩ := by rw [e1]; exact h2
    have isE := sub_enumerate
    have it1 : ∀ {A' : Around} {E : Value → Shared → Prop} {Q : Value → Shared → Prop}, Q (.ref hp.objs.size) ⟨hp.push o, g, d, tk, os⟩ → wpAny (model prog w) A' (pyIter v) Q E ⟨hp, g, d, tk, os⟩ := fun q => B.iter prog w _ _ ⟨hp, g, d, tk, os⟩ _ h1 q
    wp_walk using it1
    refine wpAny_stack_any fun st => wpAny_pure ?_
    split
    · rename_i c _ _ _ _ _
      cases (c == Value.type "enumerate")
      · wp_walk using it1
        exact ⟨_, rfl, h2'⟩
      · wp_walk using it1
        exact ⟨_, rfl, h2'⟩
    · wp_walk using it1
      exact ⟨_, rfl, h2'⟩
theorem call_enumT {prog : Program} {w : World} {A : Around} {E : Value → Shared → Prop} {s : Shared} {a : Addr} {items : Array Value} {Q : Value → Shared → Prop} (hT : s.heap.IsTuple a items)
    (h : ∀ h', IsEnum h' (s.heap.objs.size + 1) s.heap.objs.size 0 .none → h'.IsTupleIter s.heap.objs.size a 0 → (∀ b o, s.heap.get? b = some o → h'.get? b = some o) → Q (.ref (s.heap.objs.size + 1)) { s with heap := h' }) :
    wpAny (model prog w) A (call (.type "enumerate") [.ref a]) Q E s := by
  refine callType_new F.called_enumerate (by decide) (F.typeCall_enumerate_1 _) (F.newCall_enumerate_1 _) (fun obj => F.args_object_init_2 obj _) F.entry_enumerate_new (meets_enum1 (begins_tuple a items)) ⟨hT, ?_⟩
  have e1 : (s.heap.push { cls := .type "tuple_iterator", data := .fields #[.ref a, .int 0 0] }).objs.size = s.heap.objs.size + 1 := Heap.size_push ..
  have he : IsEnum ((s.heap.push { cls := .type "tuple_iterator", data := .fields #[.ref a, .int 0 0] }).push { cls := .type "enumerate", data := .fields #[.none, .bool false, .ref s.heap.objs.size, rawInt 0, .none, .none] }) (s.heap.objs.size + 1) s.heap.objs.size 0 .none := by
    rw [← e1]; exact Heap.get?_push_size _ rfl
  exact ⟨⟨_, he, rfl⟩, h _ he ⟨_, Heap.get?_push_of_some _ (Heap.get?_push_size _ rfl), rfl, rfl⟩ fun b o x => Heap.get?_push_of_some _ (Heap.get?_push_of_some _ x)⟩
/-- (0, x), (1, y), .. of the tuple at a, each pair new -/
def IteT (K : PySem.W.Frag) (a : Addr) : It :=
  ⟨fun i H => ∃ (xs : List V) (x : V), SqT K H a xs ∧ xs[i]? = some x, fun i H v H' => ∃ t x, v = .ref t ∧ H t = none ∧ H' = upd H t (.tup [.int (i : Nat), x]) ∧ ∀ xs, SqT K H a xs → xs[i]? = some x, fun i H => ∃ xs : List V, SqT K H a xs ∧ xs.length ≤ i⟩
theorem turn_enumT {P : Program} {w : World} {K : PySem.W.Frag} {elts : List Expr} {kk : Nat} {tpos : Pos} {a e it : Addr} (n1 : e ≠ it) (n2 : a ≠ it) (n3 : a ≠ e) :
    Turn P w K (.Tuple elts kk tpos) (IteT K a) [e, it] e (fun i h => (∃ old, IsEnum h e it ((i : Nat) : Int) old) ∧ h.IsTupleIter it a i) where
  mem := by simp
  obj := fun i h ⟨⟨old, he⟩, o, ho, _, hd⟩ b hb => by
    rcases List.mem_cons.mp hb with z | z
    · rw [z]; exact ⟨_, he, fun v q => nomatch q⟩
    · rw [List.mem_singleton.mp z]; exact ⟨o, ho, fun v q => by rw [hd] at q; cases q⟩
  keep := fun i h h' ⟨⟨old, he⟩, st⟩ k => ⟨⟨old, k e (by simp) _ he⟩, st.at fun o q => k it (by simp) o q⟩
  item := by
    intro X hP hw hK hc i pins s σ H E I hf st hg
    subst hP hw hK
    obtain ⟨⟨old, he⟩, hit⟩ := st
    obtain ⟨xs, x, hq, hx⟩ := hg
    obtain ⟨its, rv, p, hz⟩ := I.tuple hq
    obtain ⟨u, hu, ru⟩ := rv.get hx
    have hit0 := hit
    obtain ⟨oi, hoi, _⟩ := hit0
    have el : e < s.heap.objs.size := Heap.lt_size he
    have il : it < s.heap.objs.size := Heap.lt_size hoi
    have hix : i < its.toArray.size := by
      have := (List.getElem?_eq_some_iff.mp hu).1
      simpa using this
    refine wpAny_pyNext_enum_itemD (Draws.tuple (A := X.A.in1) (I.ok.hd hc) it a n2 its.toArray) he ⟨hit, p⟩ hix n1 (fun hm => by
      rcases List.mem_cons.mp hm with z | z
      · exact n1 z
      · exact n3 (List.mem_singleton.mp z).symm) fun y h' tk hy ho st' hT hsz hk => ?_
    have ey : y = u := by
      rw [List.getElem?_toArray, hu] at hy
      exact (Option.some.inj hy).symm
    subst ey
    refine ⟨_, rfl, wpAny_letOwnedTupleGo_enum (s := { s with heap := h', toks := tk + 1 }) ho fun h2 he2 sb => ?_⟩
    have hT2 : h2.get? s.heap.objs.size = some { cls := .type "tuple", data := .seq #[.int i tk, y] } := (sb.2 _ (Nat.ne_of_gt el)).trans hT
    have new : ObjOk X.prog X.w (upd H s.heap.objs.size (.tup [.int (i : Nat), x])) h2 s.heap.objs.size (.tup [.int (i : Nat), x]) := ⟨by show 2 ≤ sizeLine; decide, [.int i tk, y], .cons ⟨_, rfl⟩ (.cons ru .nil), ⟨_, hT2, rfl, _, rfl⟩⟩
    have I2 : Inv X pins σ (upd H s.heap.objs.size (.tup [.int (i : Nat), x])) { s with heap := h2, toks := tk + 1 } := I.turnedNew (ch := [e, it]) (fun b ob hb q => (sb.2 b fun z => hb (by simp [z])).trans (hk b ob (fun z => hb (by simp [z])) (fun z => hb (by simp [z])) q)) hf (Nat.le_refl _) new
    refine ⟨.ref s.heap.objs.size, _, I2, rfl, ⟨_, x, rfl, I.hok.fresh (Nat.le_refl _), rfl, fun ys hy => by rw [I.tuple_inj hy hq]; exact hx⟩, ⟨⟨y, ?_⟩, st'.1.at fun o q => (sb.2 it n1.symm).trans q⟩, fun b hb => ?_⟩
    · rw [show ((i + 1 : Nat) : Int) = (i : Int) + 1 by omega]; exact he2
    · rcases List.mem_cons.mp hb with z | z
      · rw [z, upd_ne (Nat.ne_of_lt el)]; exact (hf e (by simp)).1
      · rw [List.mem_singleton.mp z, upd_ne (Nat.ne_of_lt il)]; exact (hf it (by simp)).1
  done := by
    intro X hP hw hK hc i pins s σ H E I hf st hg
    subst hP hw hK
    obtain ⟨⟨old, he⟩, hit⟩ := st
    obtain ⟨xs, hq, hx⟩ := hg
    obtain ⟨its, rv, p, hz⟩ := I.tuple hq
    obtain ⟨f0, f1, f2, f3, f4, f5⟩ := hf it (by simp)
    have hl := rv.length
    have D : Draws X.prog X.w X.A.in1 it [it, a] i (fun i v => its.toArray[i]? = some v) (fun j h => j = i ∧ h.IsTupleIter it a i ∧ h.IsTuple a its.toArray) :=
      { live := fun _ _ st => let ⟨o, ho, _⟩ := st.2.1; ⟨o, ho⟩
        frame := fun _ _ _ st hk => ⟨st.1, st.2.1.at fun o e => hk it (by simp) o e, st.2.2.at fun o e => hk a (by simp) o e⟩
        item := fun j s Q E hj st hQ => absurd st.1 (Nat.ne_of_lt hj)
        done := fun s Q E st hE => wpAny_nextOf_tuple_end (I.ok.hd hc) st.2.1 st.2.2 (by simp; omega) hE }
    exact wpAny_pyNext_enum_endD D he ⟨rfl, hit, p⟩ fun h' eb => ⟨rfl, I.turned (t' := s.toks) (fun b o hb q => eb b o hb q) f0 f1 f3 f4 f5⟩
  self := fun A i s Q E ⟨⟨_, he⟩, _⟩ h => wpAny_pyIter_enum he h
section
variable {X : Cx} {T : Tz} {e : Expr} {te : TQ} {p pos tpos : Pos} {elts : List Expr} {kk : Nat}
def numL (xs : List D) : List D := (List.range xs.length).zipWith (fun i x => .tup [.int (i : Nat), x]) xs
theorem numL_get {xs : List D} {i : Nat} {x : D} (h : xs[i]? = some x) : (numL xs)[i]? = some (.tup [.int (i : Nat), x]) := by
  unfold numL
  have hl := (List.getElem?_eq_some_iff.mp h).1
  rw [List.getElem?_zipWith, h, List.getElem?_range hl]
theorem numL_length (xs : List D) : (numL xs).length = xs.length := by simp [numL]
def qEnum (te : TQ) : TAQ := fun s A P => te s A fun d A1 => match d with
  | .tup xs => P (numL xs) A1
  | d => okQ (froL d) fun xs => P (numL xs) A1
theorem Src.enum {K : PySem.W.Frag} {a : Addr} {vs : List V} {xs : List D} {F0 : Hp} (h : SqL K F0 a vs) (r : Reps K F0 vs xs) : Src K T (Ite K a) F0 (numL xs) :=
  ⟨fun i F A H hi R e => by
    rw [numL_length] at hi
    obtain ⟨v, h3, _⟩ := r.get (i := i) (List.getElem?_eq_getElem hi)
    exact ⟨vs, v, (e.trans R.sub).seq h, h3⟩,
  fun i F A H hi R e => ⟨vs, (e.trans R.sub).seq h, by rw [numL_length] at hi; rw [r.length]; exact hi⟩,
  fun i F A H x H' hl y R e => by
    obtain ⟨t, v, rfl, hn, rfl, h3⟩ := y
    obtain ⟨d, h5, h6⟩ := r.getV (h3 vs ((e.trans R.sub).seq h))
    have g := R.goF (u := .tup [.int (i : Nat), v]) hn trivial
    exact ⟨_, _, numL_get h5, g, .tup (.of upd_same) (.cons (.int _) (.cons ((h6.mono e).mono g.ext) .nil))⟩⟩
theorem Src.enumT {K : PySem.W.Frag} {a : Addr} {vs : List V} {xs : List D} {F0 : Hp} (h : SqT K F0 a vs) (r : Reps K F0 vs xs) : Src K T (IteT K a) F0 (numL xs) :=
  ⟨fun i F A H hi R e => by
    rw [numL_length] at hi
    obtain ⟨v, h3, _⟩ := r.get (i := i) (List.getElem?_eq_getElem hi)
    exact ⟨vs, v, sqT_mono (e.trans R.sub) h, h3⟩,
  fun i F A H hi R e => ⟨vs, sqT_mono (e.trans R.sub) h, by rw [numL_length] at hi; rw [r.length]; exact hi⟩,
  fun i F A H x H' hl y R e => by
    obtain ⟨t, v, rfl, hn, rfl, h3⟩ := y
    obtain ⟨d, h5, h6⟩ := r.getV (h3 vs (sqT_mono (e.trans R.sub) h))
    have g := R.goF (u := .tup [.int (i : Nat), v]) hn trivial
    exact ⟨_, _, numL_get h5, g, .tup (.of upd_same) (.cons (.int _) (.cons ((h6.mono e).mono g.ext) .nil))⟩⟩
theorem piq_enum (hm : X.mg "enumerate" = none) (he : PQ X T e te) (hg : Gl X "enumerate" := by rfl) (hs : starEach [e] X.env = (false, eval e X.env) :: starEach [] X.env := by rfl) :
    PIQ X T (.Tuple elts kk tpos) (.Call (.Name "enumerate" p) [e] [] pos) (qEnum te) := ⟨⟨fun pins s σ H R I h => by
  obtain ⟨F, A, sl, hsl, hR, P, ht, k⟩ := h
  refine PyProof.Rows.Call_ (ld_blt I hg hm PyProof.Rows.boot_enumerate (PyProof.Rows.callWith_type1 (one_arg he.pe I (R := fun v H1 => ∃ F1 A1 d, Rep X.K F1 v d ∧ Go X.K T F A H F1 A1 H1 ∧ (match d with | .tup xs => P (numL xs) A1 | d => okQ (froL d) fun xs => P (numL xs) A1)) ⟨F, A, sl, hsl, hR, _, ht, fun d A1 v H1 F1 p1 g1 r1 => ⟨F1, A1, d, r1, g1, p1⟩⟩ (fun u s1 v H1 I1 ru q => ?_) hs) hs))
  obtain ⟨F1, A1, d, rv, g1, p1⟩ := q
  split at p1
  · rename_i xs
    cases rv with
    | @tup a vs _ h1 h2 =>
      obtain rfl : u = Value.ref a := ru
      obtain ⟨its, rv, pl, hz⟩ := I1.tuple (sqT_mono g1.rs.sub h1)
      obtain ⟨oa, hoa, _⟩ := id pl
      have la : a < s1.heap.objs.size := Heap.lt_size hoa
      refine call_enumT (show s1.heap.IsTuple a its.toArray from pl) fun h' he' hit hk => wpAny_pyIter_enum he' ?_
      have I2 : Inv X pins σ H1 { s1 with heap := h' } := I1.kept (t' := s1.toks) hk
      refine ⟨s1.heap.objs.size + 1, [s1.heap.objs.size + 1, s1.heap.objs.size], _, _, H1, rfl, I2, turn_enumT (a := a) (e := s1.heap.objs.size + 1) (it := s1.heap.objs.size) (Nat.succ_ne_self _) (Nat.ne_of_lt la) (Nat.ne_of_lt (Nat.lt_succ_of_lt la)), ⟨⟨.none, he'⟩, hit⟩, fun b hb => ?_, k _ _ _ _ _ p1 g1 (Src.enumT h1 h2)⟩
      have hle : s1.heap.objs.size ≤ b := by
        rcases List.mem_cons.mp hb with z | z
        · rw [z]; exact Nat.le_succ _
        · rw [List.mem_singleton.mp z]; exact Nat.le_refl _
      exact I1.fpOk hle (I1.hok.fresh hle)
  · cases e1 : froL d with
    | none => rw [e1] at p1; exact p1.elim
    | some xs =>
      rw [e1] at p1
      obtain ⟨a, vs, rfl, h1, h2⟩ := froL_rep rv e1
      obtain rfl : u = Value.ref a := ru
      obtain ⟨its, rv, pl, hz⟩ := I1.list (g1.rs.sub.seq h1)
      refine call_enumerate_list pl.isList fun h' he' hit hsz hk => wpAny_pyIter_enum he' ?_
      have I2 : Inv X pins σ H1 { s1 with heap := h' } := I1.kept (t' := s1.toks) hk
      refine ⟨s1.heap.objs.size + 1, [s1.heap.objs.size + 1, s1.heap.objs.size], _, _, H1, rfl, I2, turn_enum a (s1.heap.objs.size + 1) s1.heap.objs.size, ⟨⟨.none, he'⟩, hit, Nat.succ_ne_self _⟩, fun b hb => ?_, k _ _ _ _ _ p1 g1 (Src.enum h1 h2)⟩
      have hle : s1.heap.objs.size ≤ b := by
        rcases List.mem_cons.mp hb with z | z
        · rw [z]; exact Nat.le_succ _
        · rw [List.mem_singleton.mp z]; exact Nat.le_refl _
      exact I1.fpOk hle (I1.hok.fresh hle)⟩⟩
end
end Qd


set_option Elab.async false
set_option linter.all false
set_option maxRecDepth 100000
set_option maxHeartbeats 4000000
/-! Second layer, part T: what never comes, dead objects dropped, lists frozen to their depth, a call that only looks. -/
namespace Qd
open PySem L2

/-! ### never -/
theorem pq_never {X : Cx} {T : Tz} {e : Expr} : PQ X T e (fun _ _ _ => False) := ⟨⟨fun _ _ _ _ _ _ q => by obtain ⟨_, _, _, _, _, _, h, _⟩ := q; exact h.elim⟩⟩
theorem pss_never {X : Cx} {T : Tz} {st : List Stmt} : PSsQ X T st qNever := ⟨⟨fun _ _ _ _ _ _ q => by obtain ⟨_, _, _, _, _, _, h, _⟩ := q; exact h.elim⟩⟩

/-! ### what is dead is dropped -/
def Shr (A A' : MH) : Prop := ∀ x o, A x = some o → A' x = some o
theorem Shr.refl (A : MH) : Shr A A := fun _ _ e => e
theorem Shr.trans {A B C : MH} (h : Shr A B) (g : Shr B C) : Shr A C := fun x o e => g x o (h x o e)
theorem Shr.new {A : MH} {a : Addr} {o : MO} (h : A a = none) : Shr A (A.set a o) := fun x u e => by
  rw [MH.set_ne (fun z => by subst z; rw [h] at e; cases e)]; exact e
section
variable {K : PySem.W.Frag} {T : Tz} {tb : List (Addr × Str)} {F F1 H H1 : Hp} {A A1 A2 : MH}
theorem RS0.shr (R : RS0 K tb F A H) (h : Shr A1 A) : RS0 K tb F A1 H := ⟨R.sub, fun a o e => R.mem a o (h a o e), R.tab, R.pl⟩
theorem Go0.shr (g : Go0 K tb F A H F1 A1 H1) (h : Shr A2 A1) : Go0 K tb F A H F1 A2 H1 :=
  ⟨g.ext, g.rs.shr h, fun b u e n p => by
    obtain ⟨h1, n1, f1⟩ := g.kp b u e n p
    refine ⟨h1, ?_, f1⟩
    rcases e2 : A2 b with _ | o
    · rfl
    · rw [h b o e2] at n1; cases n1⟩
end
section
variable {P : Program} {w : World} {K : PySem.W.Frag} {mg : Str → Option Value} {base : Heap}
/-- where a def ends, what is not asked for is dropped -/
theorem def_okS {x qual : Str} {st : Stmt} {f : Addr} {fd : FuncData} {N ps : List Str} {k : Nat} {r : RNQ} (F : Fun K x qual st f fd) (S : FnScope N ps (defScope st)) (len : ∀ ds A P, r ds A P → ds.length = ps.length)
    (hbody : ∀ (cdv : Value) (A : Around) (outer : List Env) (s : Shared) (H : Hp) (E : XK) (tb : List (Addr × Str)), Room k (A.deeper (PyProof.Rows.envOfC qual (defScope st) s.heap.objs.size f cdv)) →
      ∃ t, PSsQ (cxOf CX0 P w K mg base N qual (defScope st) f cdv A outer s H E).nox { tb := tb } (defBody st) t ∧ ∀ ds A P, r ds A P → t { nx := fun _ A' => ∃ A2, Shr A2 A' ∧ P .non A2, rt := fun d A' => ∃ A2, Shr A2 A' ∧ P d A2 } (startQ N ds) A) :
    FnOk P w K mg base CX0 (k + 1) f fd ps (liftSp K r) := by
  refine F.ok S (liftSp_len len) fun cdv A outer s H vs Q E hr h => ?_
  obtain ⟨tb, F0, A0, ds, h1, h2, PP, h3, h4⟩ := h
  obtain ⟨t, ht, hq⟩ := hbody cdv A outer s H E tb hr
  have hR : RS K { tb := tb } F0 A0 H := ⟨h2, trivial, fun C fs d A' H' F' z => z.elim⟩
  exact ⟨_, ht.ps, F0, A0, startQ N ds, start_rep h1, hR, _, hq ds A0 PP h3, ⟨fun s' A' σ' H' F' ⟨A2, sh, p⟩ g _ => h4 _ _ _ _ _ p (g.g0.shr sh) .non, fun d A' v H' F' ⟨A2, sh, p⟩ g rr => h4 _ _ _ _ _ p (g.g0.shr sh) rr, fun _ _ _ _ _ z => z.elim, fun _ _ _ _ _ z => z.elim⟩⟩
theorem def_okXS {x qual : Str} {st : Stmt} {f : Addr} {fd : FuncData} {N ps : List Str} {k : Nat} {r : RXQ} (F : Fun K x qual st f fd) (S : FnScope N ps (defScope st)) (len : ∀ ds A P x2, r ds A P x2 → ds.length = ps.length)
    (hbody : ∀ (cdv : Value) (A : Around) (outer : List Env) (s : Shared) (H : Hp) (E : XK) (tb : List (Addr × Str)) (x2 : XKQ), Room k (A.deeper (PyProof.Rows.envOfC qual (defScope st) s.heap.objs.size f cdv)) →
      ∃ t, PSsQ (cxOf (L2.CX P w) P w K mg base N qual (defScope st) f cdv A outer s H E) { tb := tb, xe := E, x2 := fun C fs A' => ∃ A2, Shr A2 A' ∧ x2 C fs A2 } (defBody st) t ∧ ∀ ds A P, r ds A P x2 → t { nx := fun _ A' => ∃ A2, Shr A2 A' ∧ P .non A2, rt := fun d A' => ∃ A2, Shr A2 A' ∧ P d A2 } (startQ N ds) A) :
    FnOk P w K mg base (L2.CX P w) (k + 1) f fd ps (liftSpX K r) := by
  refine F.okX S (liftSpX_len len) fun cdv A outer s H vs Q E hr h => ?_
  obtain ⟨tb, F0, A0, ds, h1, h2, PP, x2, h3, h4, h5⟩ := h
  obtain ⟨t, ht, hq⟩ := hbody cdv A outer s H E tb x2 hr
  have hR : RS K { tb := tb, xe := E, x2 := fun C fs A' => ∃ A2, Shr A2 A' ∧ x2 C fs A2 } F0 A0 H := ⟨h2, trivial, fun C fs d A' H' F' ⟨A2, sh, p⟩ g xd => h5 C fs d A2 H' F' p (g.shr sh) xd⟩
  exact ⟨_, ht.ps, F0, A0, startQ N ds, start_rep h1, hR, _, hq ds A0 PP h3, ⟨fun s' A' σ' H' F' ⟨A2, sh, p⟩ g _ => h4 _ _ _ _ _ p (g.g0.shr sh) .non, fun d A' v H' F' ⟨A2, sh, p⟩ g rr => h4 _ _ _ _ _ p (g.g0.shr sh) rr, fun _ _ _ _ _ z => z.elim, fun _ _ _ _ _ z => z.elim⟩⟩
end
/-! ### a list frozen to its depth -/
section
def fzL (f : D → MH → Option (D × MH)) : List D → MH → Option (List D × MH)
  | [], A => some ([], A)
  | d :: r, A => match f d A with
    | some (d', A1) => match fzL f r A1 with
      | some (r', A2) => some (d' :: r', A2)
      | none => none
    | none => none
def fzN : Nat → D → MH → Option (D × MH)
  | n + 1, .mut a, A => match A a with
    | some (.lst ds) => match fzL (fzN n) ds (A.del a) with
      | some (ds', A') => some (.lst ds', A')
      | none => none
    | _ => none
  | _, .mut _, _ => none
  | _, d, A => some (d, A)
variable {K : PySem.W.Frag} {T : Tz}
theorem fzL_ok {f : D → MH → Option (D × MH)} (hf : ∀ {d A d' A' v F H}, f d A = some (d', A') → RS K T F A H → Rep K F v d → ∃ F', Go K T F A H F' A' H ∧ Rep K F' v d') : ∀ {ds A ds' A' vs F H}, fzL f ds A = some (ds', A') → RS K T F A H → Reps K F vs ds → ∃ F', Go K T F A H F' A' H ∧ Reps K F' vs ds'
  | [], A, ds', A', vs, F, H, e, R, r => by
    cases e; cases r
    exact ⟨F, R.go, .nil⟩
  | d :: ds, A, ds', A', vs, F, H, e, R, r => by
    cases r with
    | cons h t =>
      unfold fzL at e
      split at e
      · rename_i d1 A1 e1
        obtain ⟨F1, g1, r1⟩ := hf e1 R h
        split at e
        · rename_i r2 A2 e2
          cases e
          obtain ⟨F2, g2, r3⟩ := fzL_ok hf e2 g1.rs (t.mono g1.ext)
          exact ⟨F2, g1.trans g2, .cons (r1.mono g2.ext) r3⟩
        · cases e
      · cases e
theorem fzN_ok : ∀ (n : Nat) {d A d' A' v F H}, fzN n d A = some (d', A') → RS K T F A H → Rep K F v d → ∃ F', Go K T F A H F' A' H ∧ Rep K F' v d'
  | 0, d, A, d', A', v, F, H, e, R, r => by
    cases d <;> first | (cases e; exact ⟨F, R.go, r⟩) | cases e
  | n + 1, .mut a, A, d', A', v, F, H, e, R, r => by
    obtain rfl := r.mut_inv
    unfold fzN at e
    split at e
    · rename_i ds ea
      split at e
      · rename_i ds1 A1 e1
        cases e
        obtain ⟨hF, ⟨vs, hv, rv⟩⟩ := R.mem a _ ea
        have g0 := R.goFz ea hv
        obtain ⟨F2, g2, r2⟩ := fzL_ok (fun e R r => fzN_ok n e R r) e1 g0.rs (rv.mono g0.ext)
        exact ⟨F2, g0.trans g2, .lst (g2.ext _ _ upd_same) r2⟩
      · cases e
    · cases e
  | n + 1, .non, A, d', A', v, F, H, e, R, r => by cases e; exact ⟨F, R.go, r⟩
  | n + 1, .bl _, A, d', A', v, F, H, e, R, r => by cases e; exact ⟨F, R.go, r⟩
  | n + 1, .int _, A, d', A', v, F, H, e, R, r => by cases e; exact ⟨F, R.go, r⟩
  | n + 1, .str _, A, d', A', v, F, H, e, R, r => by cases e; exact ⟨F, R.go, r⟩
  | n + 1, .ty _, A, d', A', v, F, H, e, R, r => by cases e; exact ⟨F, R.go, r⟩
  | n + 1, .tup _, A, d', A', v, F, H, e, R, r => by cases e; exact ⟨F, R.go, r⟩
  | n + 1, .lst _, A, d', A', v, F, H, e, R, r => by cases e; exact ⟨F, R.go, r⟩
  | n + 1, .dic _, A, d', A', v, F, H, e, R, r => by cases e; exact ⟨F, R.go, r⟩
  | n + 1, .gdc _, A, d', A', v, F, H, e, R, r => by cases e; exact ⟨F, R.go, r⟩
  | n + 1, .fn _, A, d', A', v, F, H, e, R, r => by cases e; exact ⟨F, R.go, r⟩
  | n + 1, .frl _, A, d', A', v, F, H, e, R, r => by cases e; exact ⟨F, R.go, r⟩
def qFzN (n : Nat) (t : TQ) : TQ := fun s A P => t s A fun d A1 => okQ (fzN n d A1) fun p => P p.1 p.2
theorem pq_fzN {X : Cx} {e : Expr} {t : TQ} (n : Nat) (h : PQ X T e t) : PQ X T e (qFzN n t) := ⟨h.pe.wk fun σ H Q h => by
  obtain ⟨F, A, s, hs, hR, P, ht, k⟩ := h
  refine ⟨F, A, s, hs, hR, _, ht, fun d A1 v H1 F1 p1 g1 r1 => ?_⟩
  cases e : fzN n d A1 with
  | none => rw [e] at p1; exact p1.elim
  | some p =>
    rw [e] at p1
    obtain ⟨d', A'⟩ := p
    obtain ⟨F2, g2, r2⟩ := fzN_ok n e g1.rs r1
    exact k _ _ _ _ _ p1 (g1.trans g2) r2⟩
end

/-! ### a call that only looks: what may change is lent out as if it could not -/
def viewL (f : D → Option D) : List D → Option (List D)
  | [] => some []
  | d :: r => match f d, viewL f r with | some d', some r' => some (d' :: r') | _, _ => none
def viewN : Nat → MH → D → Option D
  | n + 1, A, .mut a => match A a with
    | some (.lst ds) => (viewL (viewN n A) ds).map .lst
    | _ => none
  | n + 1, A, .lst ds => (viewL (viewN n A) ds).map .lst
  | n + 1, A, .tup ds => (viewL (viewN n A) ds).map .tup
  | _, _, d => some d
section
variable {K : PySem.W.Frag} {F H : Hp} {A : MH}
def lent (F : Hp) (A : MH) (H : Hp) : Hp := fun a => match A a with
  | some (.lst _) => H a
  | _ => F a
theorem lent_ok {tb : List (Addr × Str)} (R : RS0 K tb F A H) : RS0 K tb (lent F A H) (fun _ => none) H ∧ Same F (lent F A H) := by
  refine ⟨⟨fun b o e => ?_, fun b o (e : none = some o) => (by cases e), R.tab, fun b u e => ?_⟩, fun b o e => ?_⟩
  · unfold lent at e
    split at e
    · exact e
    · exact R.sub _ _ e
  · unfold lent at e
    split at e
    · rename_i ds ea
      obtain ⟨_, vs, hv, _⟩ := R.mem b _ ea
      rw [hv] at e; cases e; trivial
    · exact R.pl _ _ e
  · unfold lent
    split
    · rename_i ds ea
      obtain ⟨hF, _⟩ := R.mem b _ ea
      rw [hF] at e; cases e
    · exact e
theorem viewL_ok {F1 : Hp} {f : D → Option D} (hf : ∀ {v d d'}, f d = some d' → Rep K F v d → Rep K F1 v d') : ∀ {vs ds ds'}, viewL f ds = some ds' → Reps K F vs ds → Reps K F1 vs ds'
  | _, [], _, e, .nil => by cases e; exact .nil
  | _, d :: ds, _, e, .cons h t => by
    unfold viewL at e
    split at e
    · rename_i d1 r1 e1 e2
      cases e
      exact .cons (hf e1 h) (viewL_ok hf e2 t)
    · cases e
theorem viewN_ok {tb : List (Addr × Str)} (R : RS0 K tb F A H) : ∀ (n : Nat) {v d d'}, viewN n A d = some d' → Rep K F v d → Rep K (lent F A H) v d'
  | 0, v, d, d', e, r => by
    cases e
    exact r.mono (lent_ok R).2
  | n + 1, v, .mut a, d', e, r => by
    obtain rfl := r.mut_inv
    unfold viewN at e
    split at e
    · rename_i ds ea
      cases e1 : viewL (viewN n A) ds with
      | none => rw [e1] at e; cases e
      | some ds1 =>
        rw [e1] at e; cases e
        obtain ⟨hF, vs, hv, rv⟩ := R.mem a _ ea
        refine .lst ?_ (viewL_ok (fun e r => viewN_ok R n e r) e1 rv)
        unfold lent
        rw [ea]
        exact hv
    · cases e
  | n + 1, v, .lst ds, d', e, r => by
    cases e1 : viewL (viewN n A) ds with
    | none => unfold viewN at e; rw [e1] at e; cases e
    | some ds1 =>
      unfold viewN at e; rw [e1] at e; cases e
      cases r with
      | lst h t => exact .lst ((lent_ok R).2 _ _ h) (viewL_ok (fun e r => viewN_ok R n e r) e1 t)
  | n + 1, v, .tup ds, d', e, r => by
    cases e1 : viewL (viewN n A) ds with
    | none => unfold viewN at e; rw [e1] at e; cases e
    | some ds1 =>
      unfold viewN at e; rw [e1] at e; cases e
      cases r with
      | tup h t => exact .tup (sqT_mono (lent_ok R).2 h) (viewL_ok (fun e r => viewN_ok R n e r) e1 t)
  | n + 1, v, .non, d', e, r => by cases e; exact r.mono (lent_ok R).2
  | n + 1, v, .bl _, d', e, r => by cases e; exact r.mono (lent_ok R).2
  | n + 1, v, .int _, d', e, r => by cases e; exact r.mono (lent_ok R).2
  | n + 1, v, .str _, d', e, r => by cases e; exact r.mono (lent_ok R).2
  | n + 1, v, .ty _, d', e, r => by cases e; exact r.mono (lent_ok R).2
  | n + 1, v, .dic _, d', e, r => by cases e; exact r.mono (lent_ok R).2
  | n + 1, v, .gdc _, d', e, r => by cases e; exact r.mono (lent_ok R).2
  | n + 1, v, .fn _, d', e, r => by cases e; exact r.mono (lent_ok R).2
  | n + 1, v, .frl _, d', e, r => by cases e; exact r.mono (lent_ok R).2
/-- back from a call that had nothing that it may change -/
theorem lent_back {tb : List (Addr × Str)} {F2 H2 : Hp} {A2 : MH} (R : RS0 K tb F A H) (g : Go0 K tb (lent F A H) (fun _ => none) H F2 A2 H2) : Go0 K tb F A H F A H2 := by
  have keep : ∀ b u, H b = some u → Plain u → H2 b = some u := fun b u e p => (g.kp b u e rfl p).1
  refine ⟨Same.refl F, ⟨fun b o e => keep _ _ (R.sub _ _ e) (R.pl _ _ e), fun b o e => ?_, g.rs.tab, R.pl⟩, fun b u e n p => ⟨keep _ _ e p, n, fun z => z⟩⟩
  obtain ⟨m1, m2⟩ := R.mem b o e
  obtain ⟨u, hu, pw, _⟩ := m2.there
  exact ⟨m1, m2.mono (Same.refl F) ((keep _ _ hu pw.plain).trans hu.symm)⟩
end
def qCBw (n : Nat) (r : RNQ) (t : TAQ) : TQ := fun s A P => t s A fun xs A1 => okQ (viewL (viewN n A1) xs) fun ys => r ys (fun _ => none) fun d _ => flD d = true ∧ P d A1
section
variable {X : Cx} {T : Tz} {k : Nat} {ar : Arguments} {ps : List Str} {n : Nat} {r : RNQ} {x : Str} {p pos : Pos} {e a b : Expr} {es : List Expr} {t : TAQ} {ta tb : TQ}
theorem fl_rep {K : PySem.W.Frag} {F F' : Hp} {v : V} {d : D} (r : Rep K F v d) (h : flD d = true) : Rep K F' v d := by
  cases r <;> first | (cases h; done) | (constructor; done)
theorem lift_callw {K : PySem.W.Frag} {σ : St} {H : Hp} {Q : VK} {E : XK} (h : lift K T (qCBw n r t) σ H Q) : tCall (liftSp K r) [] E (liftA K T t) σ H Q := by
  obtain ⟨F, A, s, hs, hR, P, ht, k⟩ := h
  refine ⟨F, A, s, hs, hR, _, ht, fun ds A1 vs H1 F1 p1 g1 r1 => ?_⟩
  show liftSp K r (vs ++ []) H1 Q E
  rw [List.append_nil]
  cases e : viewL (viewN n A1) ds with
  | none => rw [e] at p1; exact p1.elim
  | some ys =>
    rw [e] at p1
    have R1 := g1.rs.r0
    exact ⟨T.tb, lent F1 A1 H1, fun _ => none, ys, viewL_ok (fun e r => viewN_ok R1 n e r) e r1, (lent_ok R1).1, _, p1, fun d A' v H' F' ⟨fl, p⟩ g r => k _ _ _ _ _ p (g1.trans (g1.rs.to (lent_back R1 g))) (fl_rep r fl)⟩
/-- f(e, ..), which looks alone -/
theorem pq_fnw (n : Nat) (G : Def X.prog X.w X.K X.mg X.base k x ar ps r) (hr : Room k X.A) (ha : PAQ X T (e :: es) t) (hg : Gl X x := by rfl) (hdb : (x == ("__debug__" : Str)) = false := by decide)
    (he : starEach (e :: es) X.env = (false, eval e X.env) :: starEach es X.env := by rfl) (hpl : (backTo pos (starEach es X.env)).any (·.1) = false := by rfl) : PQ X T (.Call (.Name x p) (e :: es) [] pos) (qCBw n r t) := by
  obtain ⟨f, fd, F, hm, hk, hb, _⟩ := G.is
  exact ⟨(pe_call F hr hg hm hk hb .nil pass0 ha.pa hdb he hpl).wk fun _ _ _ h => lift_callw h⟩
/-- k in d -/
theorem pq_din (hu : X.A.units + 1 < cLine) (ha : PQ X T a ta) (hb : PQ X T b tb) (hm : behindInMarks .In b = false := by rfl) : PQ X T (.Compare a [.In] [b] pos) (qDIn ta tb) := ⟨(pe_cmp (pc_din hu ha.pe hb.pe) hm).wk fun _ _ _ h => lift_din h⟩
end
end Qd


set_option Elab.async false
set_option linter.all false
set_option maxRecDepth 100000
set_option maxHeartbeats 4000000
/-! Second layer, part U: what readings come to; loops by an invariant; a def from what the top has written. -/
namespace Qd
open PySem L2

theorem okQ_iff {α : Type} {o : Option α} {P : α → Prop} : okQ o P ↔ ∃ z, o = some z ∧ P z := by
  cases o with
  | none => exact ⟨fun h => h.elim, fun ⟨_, e, _⟩ => nomatch e⟩
  | some z => exact ⟨fun h => ⟨z, rfl, h⟩, fun ⟨_, e, h⟩ => by cases e; exact h⟩
theorem okQ_mk {α : Type} {o : Option α} {P : α → Prop} {z : α} (e : o = some z) (h : P z) : okQ o P := by rw [e]; exact h
theorem okQ_imp {α : Type} {o : Option α} {P Q : α → Prop} (h : okQ o P) (w : ∀ z, o = some z → P z → Q z) : okQ o Q := by
  cases o with
  | none => exact h
  | some z => exact w z rfl h
theorem qVar_z {d : D} {s : SQ} {A : MH} {P : KQ} : qVar 0 (some d :: s) A P = P d A := rfl
theorem qVar_s {i : Nat} {o : Option D} {s : SQ} {A : MH} {P : KQ} : qVar (i + 1) (o :: s) A P = qVar i s A P := rfl

/-- a pure promise of one, two, three arguments -/
def r1 (f : MH → D → Option D) : RNQ := fun ds A P => ∃ x, ds = [x] ∧ okQ (f A x) fun d => P d A
def r2 (f : MH → D → D → Option D) : RNQ := fun ds A P => ∃ x y, ds = [x, y] ∧ okQ (f A x y) fun d => P d A
theorem r1_len {f : MH → D → Option D} (ds : List D) (A : MH) (P : KQ) (h : r1 f ds A P) : ds.length = 1 := by obtain ⟨x, rfl, _⟩ := h; rfl
theorem r2_len {f : MH → D → D → Option D} (ds : List D) (A : MH) (P : KQ) (h : r2 f ds A P) : ds.length = 2 := by obtain ⟨x, y, rfl, _⟩ := h; rfl
theorem r1_rd {f : MH → D → Option D} {x : D} {A : MH} {P : KQ} : r1 f [x] A P = okQ (f A x) fun d => P d A := propext ⟨fun ⟨_, e, h⟩ => by cases e; exact h, fun h => ⟨_, rfl, h⟩⟩
theorem r2_rd {f : MH → D → D → Option D} {x y : D} {A : MH} {P : KQ} : r2 f [x, y] A P = okQ (f A x y) fun d => P d A := propext ⟨fun ⟨_, _, e, h⟩ => by cases e; exact h, fun h => ⟨_, _, rfl, h⟩⟩

section
variable {P : Program} {w : World} {K : PySem.W.Frag} {mg : Str → Option Value} {base : Heap}
theorem mkDef {k : Nat} {x : Str} {st : Stmt} {ps : List Str} {r : RNQ} (h : ∃ f fd, Fun K x x st f fd ∧ mg x = some (.ref f)) (hok : ∀ f fd, Fun K x x st f fd → FnOk P w K mg base CX0 k f fd ps (liftSp K r))
    (hb : ∀ (kV doc pm : Value) (an : Option Addr) (cdv ct : Value) (us : List Value), us.length = ps.length → bindArgs (PySem.W.fnOf x x (defArgs st) (defBody st) (defScope st) .none kV doc pm an cdv ct) ⟨us, []⟩ = pure (ps.zip us)) : Def P w K mg base k x (defArgs st) ps r := by
  obtain ⟨f, fd, F, hm⟩ := h
  refine ⟨f, fd, hok f fd F, hm, F.kp, F.binds hb, ?_⟩
  obtain ⟨oc, od, kV, doc, pm, an, cdv, ct, osl, e, _⟩ := F.ex
  exact ⟨x, x, defBody st, defScope st, kV, doc, pm, an, cdv, ct, e⟩
theorem mkDefX {k : Nat} {x : Str} {st : Stmt} {ps : List Str} {r : RXQ} (h : ∃ f fd, Fun K x x st f fd ∧ mg x = some (.ref f)) (hok : ∀ f fd, Fun K x x st f fd → FnOk P w K mg base (L2.CX P w) k f fd ps (liftSpX K r))
    (hb : ∀ (kV doc pm : Value) (an : Option Addr) (cdv ct : Value) (us : List Value), us.length = ps.length → bindArgs (PySem.W.fnOf x x (defArgs st) (defBody st) (defScope st) .none kV doc pm an cdv ct) ⟨us, []⟩ = pure (ps.zip us)) : DefX P w K mg base k x (defArgs st) ps r := by
  obtain ⟨f, fd, F, hm⟩ := h
  refine ⟨f, fd, hok f fd F, hm, F.kp, F.binds hb, ?_⟩
  obtain ⟨oc, od, kV, doc, pm, an, cdv, ct, osl, e, _⟩ := F.ex
  exact ⟨x, x, defBody st, defScope st, kV, doc, pm, an, cdv, ct, e⟩
end

/-! ### loops -/
theorem runL_inv {t : Tgt} {tb : TSQ} {E : EndsQ} (I : List D → SQ → MH → Prop)
    (step : ∀ x xs s A (N : SQ → MH → Prop), I (x :: xs) s A → (∀ s A, I xs s A → N s A) → okQ (tset t x s) fun s' => tb { E with nx := N, ct := N, bk := E.nx } s' A) (fin : ∀ s A, I [] s A → E.nx s A) : ∀ ds s A, I ds s A → runL t tb E ds s A
  | [], s, A, h => fin s A h
  | x :: xs, s, A, h => by
    have q := step x xs s A (runL t tb E xs) h (fun s A h => runL_inv I step fin xs s A h)
    unfold runL
    cases e : tset t x s with
    | none => rw [e] at q; exact q.elim
    | some s' => rw [e] at q; exact q
/-- a comprehension, its parts given by an invariant over what is left, what is found -/
theorem compL_inv {t : Tgt} {tt : TTQ} {te : TQ} {s : SQ} {P : List D → MH → Prop} (I : List D → List D → MH → Prop)
    (step : ∀ x xs acc A (Y N : List D → MH → Prop), I (x :: xs) acc A → (∀ acc' A', I xs acc' A' → N acc' A') → okQ (tset t x s) fun s' => tt s' A fun b A1 => if b = true then te s' A1 fun y A2 => acc.length < 100000 ∧ N (acc ++ [y]) A2 else N acc A1)
    (fin : ∀ acc A, I [] acc A → P acc A) : ∀ ds acc A, I ds acc A → compL t tt te s ds acc A P
  | [], acc, A, h => fin acc A h
  | x :: xs, acc, A, h => by
    have q := step x xs acc A (fun _ _ => True) (fun acc' A' => compL t tt te s xs acc' A' P) h (fun acc' A' h => compL_inv I step fin xs acc' A' h)
    unfold compL
    cases e : tset t x s with
    | none => rw [e] at q; exact q.elim
    | some s' => rw [e] at q; exact q
def mapO {α β : Type} (f : α → Option β) : List α → Option (List β)
  | [] => some []
  | x :: xs => match f x, mapO f xs with | some y, some ys => some (y :: ys) | _, _ => none
theorem mapO_map {α β γ : Type} {f : α → Option β} {g : γ → α} {k : γ → β} : ∀ {xs : List γ}, (∀ x ∈ xs, f (g x) = some (k x)) → mapO f (xs.map g) = some (xs.map k)
  | [], _ => rfl
  | x :: xs, h => by
    rw [List.map_cons, List.map_cons]
    unfold mapO
    rw [h x (List.mem_cons_self ..), mapO_map fun y hy => h y (List.mem_cons_of_mem _ hy)]
theorem mapO_comp {α β γ : Type} {f : α → Option β} {g : α → Option γ} (k : β → γ) : ∀ {xs : List α} {ys : List β}, mapO f xs = some ys → (∀ x ∈ xs, ∀ y, f x = some y → g x = some (k y)) → mapO g xs = some (ys.map k)
  | [], ys, e, _ => by cases e; rfl
  | x :: xs, ys, e, h => by
    unfold mapO at e ⊢
    split at e
    · rename_i y ys' e1 e2
      cases e
      rw [h x (List.mem_cons_self ..) y e1, mapO_comp k e2 fun z hz => h z (List.mem_cons_of_mem _ hz)]
      rfl
    · cases e
theorem mapO_length {α β : Type} {f : α → Option β} : ∀ {xs : List α} {ys : List β}, mapO f xs = some ys → ys.length = xs.length
  | [], _, e => by cases e; rfl
  | x :: xs, ys, e => by
    unfold mapO at e
    split at e
    · rename_i y ys' e1 e2
      cases e
      rw [List.length_cons, List.length_cons, mapO_length e2]
    · cases e
/-- a comprehension that changes nothing -/
theorem compL_map {t : Tgt} {te : TQ} {s : SQ} {A : MH} {P : List D → MH → Prop} (f : D → Option D) : ∀ (xs acc : List D), acc.length + xs.length ≤ 100000 →
    (∀ x ∈ xs, ∀ Q : KQ, okQ (f x) (fun y => Q y A) → okQ (tset t x s) fun s' => te s' A Q) → okQ (mapO f xs) (fun ys => P (acc ++ ys) A) → compL t qYes te s xs acc A P
  | [], acc, _, _, h => by rw [mapO, okQ_some, List.append_nil] at h; exact h
  | x :: xs, acc, hl, hf, h => by
    rw [List.length_cons] at hl
    unfold mapO at h
    cases e1 : f x with
    | none => rw [e1] at h; exact h.elim
    | some y =>
      cases e2 : mapO f xs with
      | none => rw [e1, e2] at h; exact h.elim
      | some ys =>
        rw [e1, e2] at h
        have q := hf x (List.mem_cons_self ..) (fun y A2 => acc.length < 100000 ∧ compL t qYes te s xs (acc ++ [y]) A2 P) (by
          rw [e1]
          refine ⟨by omega, compL_map f xs (acc ++ [y]) (by rw [List.length_append, List.length_singleton]; omega) (fun z hz => hf z (List.mem_cons_of_mem _ hz)) ?_⟩
          rw [e2, okQ_some, List.append_assoc]
          exact h)
        unfold compL
        cases e3 : tset t x s with
        | none => rw [e3] at q; exact q.elim
        | some s' => rw [e3] at q; exact q
theorem putA_length {κ : Type} [DecidableEq κ] (kvs : List (κ × D)) (k : κ) (v : D) : (putA kvs k v).length ≤ kvs.length + 1 := by
  unfold putA
  split
  · rw [List.length_map]; omega
  · rw [List.length_append]; exact Nat.le_refl _
def pair2 {κ : Type} (a : Option κ) (b : Option D) : Option (κ × D) := match a, b with | some k, some v => some (k, v) | _, _ => none
/-- a dict comprehension that changes nothing -/
theorem compF_map {κ : Type} [DecidableEq κ] {t : Tgt} {kk : TKQ κ} {tv : TQ} {s : SQ} {A : MH} {P : List (κ × D) → MH → Prop} (kf : D → Option κ) (vf : D → Option D) : ∀ (xs : List D) (acc : List (κ × D)), acc.length + xs.length ≤ 100000 →
    (∀ x ∈ xs, ∀ Q : κ → D → MH → Prop, okQ (pair2 (kf x) (vf x)) (fun p => Q p.1 p.2 A) → okQ (tset t x s) fun s' => kk s' A fun k A2 => tv s' A2 fun v A3 => Q k v A3) → okQ (mapO (fun x => pair2 (kf x) (vf x)) xs) (fun ps => P (mergeA acc ps) A) → compF t qYes kk tv s xs acc A P
  | [], acc, _, _, h => by rw [mapO, okQ_some] at h; exact h
  | x :: xs, acc, hl, hf, h => by
    rw [List.length_cons] at hl
    unfold mapO at h
    cases e1 : pair2 (kf x) (vf x) with
    | none => rw [e1] at h; exact h.elim
    | some p =>
      obtain ⟨k, v⟩ := p
      cases e2 : mapO (fun x => pair2 (kf x) (vf x)) xs with
      | none => rw [e1, e2] at h; exact h.elim
      | some ys =>
        rw [e1, e2] at h
        have q := hf x (List.mem_cons_self ..) (fun k v A2 => acc.length < 100000 ∧ compF t qYes kk tv s xs (putA acc k v) A2 P) (by
          rw [e1]
          refine ⟨by omega, compF_map kf vf xs (putA acc k v) (by have := putA_length acc k v; omega) (fun z hz => hf z (List.mem_cons_of_mem _ hz)) ?_⟩
          rw [e2, okQ_some]
          exact h)
        unfold compF
        cases e3 : tset t x s with
        | none => rw [e3] at q; exact q.elim
        | some s' => rw [e3] at q; exact q
theorem eqD_int {i j : Int} : eqD (.int i) (.int j) = some (decide (i = j)) := by
  have e : eqS (.int i) (.int j) = some (decide (V.int i = V.int j)) := by
    show (if scal (.int i) (.int j) = true then some (decide ((.int i : V) = .int j)) else none) = _
    exact if_pos rfl
  unfold eqD
  rw [e]
  congr 1
  by_cases h : i = j
  · subst h; simp
  · rw [decide_eq_false h, decide_eq_false (fun z => h (by cases z; rfl))]
theorem eqD_str {i j : Str} : eqD (.str i) (.str j) = some (decide (i = j)) := by
  have e : eqS (.str i) (.str j) = some (decide (V.str i = V.str j)) := by
    show (if scal (.str i) (.str j) = true then some (decide ((.str i : V) = .str j)) else none) = _
    exact if_pos rfl
  unfold eqD
  rw [e]
  congr 1
  by_cases h : i = j
  · subst h; simp
  · rw [decide_eq_false h, decide_eq_false (fun z => h (by cases z; rfl))]
theorem eqD_bl {i j : Bool} : eqD (.bl i) (.bl j) = some (decide (i = j)) := by cases i <;> cases j <;> rfl
/-- how many keys True, False there come to be -/
theorem merge_bools (bs : List Bool) : ∀ l : List Bool, l.Nodup → ((mergeA (l.map fun b => (some b, D.bl true)) (bs.map fun b => (some b, D.bl true))).length = 1 ↔ (l ++ bs ≠ [] ∧ ((l ++ bs).all id = true ∨ (l ++ bs).all (!·) = true))) := by
  induction bs with
  | nil =>
    intro l hl
    rw [show mergeA (l.map fun b => (some b, D.bl true)) ([].map fun b => (some b, D.bl true)) = l.map fun b => (some b, D.bl true) from rfl, List.length_map, List.append_nil]
    match l, hl with
    | [], _ => simp
    | [a], _ => cases a <;> simp
    | [a, b], h => cases a <;> cases b <;> simp at h ⊢
    | a :: b :: c :: r, h => cases a <;> cases b <;> cases c <;> simp at h
  | cons b bs ih =>
    intro l hl
    show (mergeA (putA (l.map fun b => (some b, D.bl true)) (some b) (.bl true)) (bs.map fun b => (some b, D.bl true))).length = 1 ↔ _
    by_cases hb : b ∈ l
    · have e : putA (l.map fun b => (some b, D.bl true)) (some b) (.bl true) = l.map fun b => (some b, D.bl true) := by
        unfold putA
        have hh : hasA (l.map fun b => (some b, D.bl true)) (some b) = true := by
          unfold hasA
          rw [List.any_map, List.any_eq_true]
          exact ⟨b, hb, by simp⟩
        rw [if_pos hh, List.map_map]
        refine List.map_congr_left fun x _ => ?_
        show (if some x = some b then (some x, D.bl true) else (some x, D.bl true)) = (some x, D.bl true)
        split <;> rfl
      rw [e, ih l hl]
      have hm : ∀ f : Bool → Bool, (l ++ b :: bs).all f = (l ++ bs).all f := fun f => by
        rw [List.all_append, List.all_append, List.all_cons]
        cases h1 : f b with
        | true => rw [Bool.true_and]
        | false =>
          have : l.all f = false := by
            rw [List.all_eq_false]
            exact ⟨b, hb, by rw [h1]; exact Bool.false_ne_true⟩
          rw [this]; rfl
      rw [hm, hm]
      have hn : l ≠ [] := fun z => by rw [z] at hb; cases hb
      simp [hn]
    · have e : putA (l.map fun b => (some b, D.bl true)) (some b) (.bl true) = (l ++ [b]).map fun b => (some b, D.bl true) := by
        unfold putA
        have hh : ¬ hasA (l.map fun b => (some b, D.bl true)) (some b) = true := by
          unfold hasA
          rw [List.any_map, List.any_eq_true]
          rintro ⟨x, hx, e⟩
          simp at e
          exact hb (e ▸ hx)
        rw [if_neg hh, List.map_append]
        rfl
      rw [e, ih (l ++ [b]) (by
        rw [List.nodup_append]
        exact ⟨hl, by simp, fun x hx y hy => by simp at hy; subst hy; exact fun z => hb (z ▸ hx)⟩), List.append_assoc]
      rfl
theorem ent_noseq {A : MH} {d : D} {kvs : List (D × D)} (h : entD A d = some kvs) : seqD A d = none := by
  unfold entD at h
  split at h
  · rfl
  · rfl
  · rename_i a
    show (match A a with | some (.lst xs) => some xs | _ => none) = none
    split at h
    · rename_i ea; rw [ea]
    · cases h
  · cases h
theorem rList_ent {m : Bool} {A : MH} {d : D} {kvs : List (D × D)} {Q : KQ} (h : entD A d = some kvs) (q : newL m (kvs.map (·.1)) A Q) : rListQ m [d] A Q := by
  show (match seqD A d with | some ys => newL m ys A Q | none => okQ (entD A d) fun kvs => newL m (kvs.map (·.1)) A Q)
  rw [ent_noseq h, h]
  exact q
theorem rList_seq {m : Bool} {A : MH} {d : D} {xs : List D} {Q : KQ} (h : seqD A d = some xs) (q : newL m xs A Q) : rListQ m [d] A Q := by
  show (match seqD A d with | some ys => newL m ys A Q | none => okQ (entD A d) fun kvs => newL m (kvs.map (·.1)) A Q)
  rw [h]
  exact q
theorem mapO_of_map {α β γ : Type} {f : α → Option β} {g : γ → α} : ∀ {xs : List γ}, mapO f (xs.map g) = mapO (fun x => f (g x)) xs
  | [] => rfl
  | x :: xs => by
    rw [List.map_cons]
    unfold mapO
    rw [mapO_of_map]
theorem mapO_congr {α β : Type} {f g : α → Option β} : ∀ {xs : List α}, (∀ x ∈ xs, f x = g x) → mapO f xs = mapO g xs
  | [], _ => rfl
  | x :: xs, h => by
    unfold mapO
    rw [h x (List.mem_cons_self ..), mapO_congr fun y hy => h y (List.mem_cons_of_mem _ hy)]
theorem keyD_k (k : Key) : keyD (kD k) = some k := by cases k <;> rfl
/-- the keys of a dict, sorted -/
def sortKeys (ps : List (Key × D)) : Option (List Key) := match keyInts ps with
  | some ns => some ((srtI ns).map .inl)
  | none => (keyStrs ps).map fun ns => (srtS ns).map .inr
theorem keyInts_len : ∀ {ps : List (Key × D)} {ns : List Int}, keyInts ps = some ns → ns.length = ps.length
  | [], ns, e => by cases e; rfl
  | (.inl i, d) :: r, ns, e => by
    unfold keyInts at e
    cases e1 : keyInts r with
    | none => rw [e1] at e; cases e
    | some ms => rw [e1] at e; cases e; rw [List.length_cons, List.length_cons, keyInts_len e1]
  | (.inr i, d) :: r, ns, e => by cases e
theorem keyStrs_len : ∀ {ps : List (Key × D)} {ns : List Str}, keyStrs ps = some ns → ns.length = ps.length
  | [], ns, e => by cases e; rfl
  | (.inr i, d) :: r, ns, e => by
    unfold keyStrs at e
    cases e1 : keyStrs r with
    | none => rw [e1] at e; cases e
    | some ms => rw [e1] at e; cases e; rw [List.length_cons, List.length_cons, keyStrs_len e1]
  | (.inl i, d) :: r, ns, e => by cases e
theorem rSort_dic {m : Bool} {A : MH} {ps : List (Key × D)} {ks : List Key} {Q : KQ} (h : sortKeys ps = some ks) (hl : ps.length < 64) (q : newL m (ks.map kD) A Q) : rSortQ m [.dic ps] A Q := by
  unfold sortKeys at h
  cases e1 : keyInts ps with
  | some ns =>
    rw [e1] at h; cases h
    rw [List.map_map] at q
    exact .inl ⟨ns, e1, by rw [keyInts_len e1]; exact hl, q⟩
  | none =>
    rw [e1] at h
    cases e2 : keyStrs ps with
    | none => rw [e2] at h; cases h
    | some ns =>
      rw [e2] at h; cases h
      rw [List.map_map] at q
      exact .inr ⟨ns, e2, by rw [keyStrs_len e2]; exact hl, q⟩
theorem sortKeys_len {ps : List (Key × D)} {ks : List Key} (h : sortKeys ps = some ks) : ks.length = ps.length := by
  unfold sortKeys at h
  cases e1 : keyInts ps with
  | some ns =>
    rw [e1] at h; cases h
    rw [List.length_map, srtI, List.length_mergeSort, keyInts_len e1]
  | none =>
    rw [e1] at h
    cases e2 : keyStrs ps with
    | none => rw [e2] at h; cases h
    | some ns =>
      rw [e2] at h; cases h
      rw [List.length_map, srtS, List.length_mergeSort, keyStrs_len e2]
theorem pair2_some {κ : Type} {a : Option κ} {b : Option D} {k : κ} {v : D} (h1 : a = some k) (h2 : b = some v) : pair2 a b = some (k, v) := by rw [h1, h2]; rfl
theorem tset_nm {i : Nat} {d : D} {s : SQ} : tset (.nm i) d s = some (s.set i (some d)) := rfl
theorem tset_tp {ts : List Tgt} {ds : List D} {s : SQ} : tset (.tp ts) (.tup ds) s = tsets ts ds s := rfl
theorem tsets_nil {s : SQ} : tsets [] [] s = some s := rfl
theorem tsets_nm {i : Nat} {ts : List Tgt} {d : D} {ds : List D} {s : SQ} : tsets (.nm i :: ts) (d :: ds) s = tsets ts ds (s.set i (some d)) := rfl
theorem tsets_tp {us ts : List Tgt} {es ds : List D} {s : SQ} : tsets (.tp us :: ts) (.tup es :: ds) s = match tsets us es s with | some s' => tsets ts ds s' | none => none := rfl
theorem wipe_nil {s : SQ} : wipeQ s [] = s := rfl
theorem wipe_cons {s : SQ} {v : Nat} {vs : List Nat} : wipeQ s (v :: vs) = (wipeQ s vs).set v none := rfl
theorem newL_f {ds : List D} {A : MH} {P : KQ} : newL false ds A P = P (.lst ds) A := rfl
theorem newL_t {ds : List D} {A : MH} {P : KQ} : newL true ds A P = ∀ a, A a = none → P (.mut a) (A.set a (.lst ds)) := rfl
theorem itD_lst {xs : List D} : itD (.lst xs) = some xs := rfl
theorem itD_tup {xs : List D} : itD (.tup xs) = some xs := rfl
theorem itD_dic {xs : List (Key × D)} : itD (.dic xs) = some (keysD xs) := rfl
theorem lenD_lst {A : MH} {xs : List D} : lenD A (.lst xs) = some xs.length := rfl
theorem lenD_tup {A : MH} {xs : List D} : lenD A (.tup xs) = some xs.length := rfl
theorem lenD_dic {A : MH} {xs : List (Key × D)} : lenD A (.dic xs) = some xs.length := rfl
theorem dicD_dic {A : MH} {xs : List (Key × D)} : dicD A (.dic xs) = some xs := rfl
theorem isN_non : isN .non = true := rfl
theorem lstD_lst {A : MH} {xs : List D} : lstD A (.lst xs) = some xs := rfl
theorem seqD_lst {A : MH} {xs : List D} : seqD A (.lst xs) = some xs := rfl
theorem seqD_tup {A : MH} {xs : List D} : seqD A (.tup xs) = some xs := rfl
/-! ### loops over places -/
theorem runL_from {t : Tgt} {tb : TSQ} {E : EndsQ} (ds : List D) (I : Nat → SQ → MH → Prop)
    (step : ∀ i x s A (N : SQ → MH → Prop), ds[i]? = some x → I i s A → (∀ s A, I (i + 1) s A → N s A) → okQ (tset t x s) fun s' => tb { E with nx := N, ct := N, bk := E.nx } s' A) (fin : ∀ s A, I ds.length s A → E.nx s A) :
    ∀ (m i : Nat) s A, i + m = ds.length → I i s A → runL t tb E (ds.drop i) s A
  | 0, i, s, A, hi, h => by
    have e : ds.drop i = [] := List.drop_eq_nil_of_le (by omega)
    rw [e]
    exact fin s A (by have : i = ds.length := by omega
                      rw [← this]; exact h)
  | m + 1, i, s, A, hi, h => by
    have hlt : i < ds.length := by omega
    rw [List.drop_eq_getElem_cons hlt]
    have q := step i ds[i] s A (runL t tb E (ds.drop (i + 1))) (List.getElem?_eq_getElem hlt) h (fun s A h => runL_from ds I step fin m (i + 1) s A (by omega) h)
    unfold runL
    cases e : tset t ds[i] s with
    | none => rw [e] at q; exact q.elim
    | some s' => rw [e] at q; exact q
theorem runL_ix {t : Tgt} {tb : TSQ} {E : EndsQ} {ds : List D} {s : SQ} {A : MH} (I : Nat → SQ → MH → Prop) (h0 : I 0 s A)
    (step : ∀ i x s A (N : SQ → MH → Prop), ds[i]? = some x → I i s A → (∀ s A, I (i + 1) s A → N s A) → okQ (tset t x s) fun s' => tb { E with nx := N, ct := N, bk := E.nx } s' A) (fin : ∀ s A, I ds.length s A → E.nx s A) : runL t tb E ds s A := by
  have := runL_from ds I step fin ds.length 0 s A (Nat.zero_add _) h0
  rwa [List.drop_zero] at this
theorem rngD_len {lo : Int} {n : Nat} : (rngD lo n).length = n := by unfold rngD; rw [List.length_map, List.length_range]
theorem rngD_get {lo : Int} {n i : Nat} {x : D} (h : (rngD lo n)[i]? = some x) : i < n ∧ x = .int (lo + (i : Nat)) := by
  unfold rngD at h
  rw [List.getElem?_map] at h
  by_cases hi : i < n
  · rw [List.getElem?_range hi] at h
    exact ⟨hi, (Option.some.inj h).symm⟩
  · rw [List.getElem?_eq_none (by rw [List.length_range]; omega)] at h
    cases h
theorem runL_rng {t : Tgt} {tb : TSQ} {E : EndsQ} {lo : Int} {n : Nat} {s : SQ} {A : MH} (I : Nat → SQ → MH → Prop) (h0 : I 0 s A)
    (step : ∀ i s A (N : SQ → MH → Prop), i < n → I i s A → (∀ s A, I (i + 1) s A → N s A) → okQ (tset t (.int (lo + (i : Nat))) s) fun s' => tb { E with nx := N, ct := N, bk := E.nx } s' A) (fin : ∀ s A, I n s A → E.nx s A) : runL t tb E (rngD lo n) s A :=
  runL_ix I h0 (fun i x s A N hx h k => by
    obtain ⟨hi, rfl⟩ := rngD_get hx
    exact step i s A N hi h k) fun s A h => fin s A (by rw [rngD_len] at h; exact h)
theorem compL_from {t : Tgt} {tt : TTQ} {te : TQ} {s : SQ} {P : List D → MH → Prop} (ds : List D) (I : Nat → List D → MH → Prop)
    (step : ∀ i x acc A (N : List D → MH → Prop), ds[i]? = some x → I i acc A → (∀ acc' A', I (i + 1) acc' A' → N acc' A') → okQ (tset t x s) fun s' => tt s' A fun b A1 => if b = true then te s' A1 fun y A2 => acc.length < 100000 ∧ N (acc ++ [y]) A2 else N acc A1)
    (fin : ∀ acc A, I ds.length acc A → P acc A) : ∀ (m i : Nat) acc A, i + m = ds.length → I i acc A → compL t tt te s (ds.drop i) acc A P
  | 0, i, acc, A, hi, h => by
    have e : ds.drop i = [] := List.drop_eq_nil_of_le (by omega)
    rw [e]
    exact fin acc A (by have : i = ds.length := by omega
                        rw [← this]; exact h)
  | m + 1, i, acc, A, hi, h => by
    have hlt : i < ds.length := by omega
    rw [List.drop_eq_getElem_cons hlt]
    have q := step i ds[i] acc A (fun acc' A' => compL t tt te s (ds.drop (i + 1)) acc' A' P) (List.getElem?_eq_getElem hlt) h (fun acc' A' h => compL_from ds I step fin m (i + 1) acc' A' (by omega) h)
    unfold compL
    cases e : tset t ds[i] s with
    | none => rw [e] at q; exact q.elim
    | some s' => rw [e] at q; exact q
theorem compL_ix {t : Tgt} {tt : TTQ} {te : TQ} {s : SQ} {A : MH} {P : List D → MH → Prop} {ds : List D} (I : Nat → List D → MH → Prop) (h0 : I 0 [] A)
    (step : ∀ i x acc A (N : List D → MH → Prop), ds[i]? = some x → I i acc A → (∀ acc' A', I (i + 1) acc' A' → N acc' A') → okQ (tset t x s) fun s' => tt s' A fun b A1 => if b = true then te s' A1 fun y A2 => acc.length < 100000 ∧ N (acc ++ [y]) A2 else N acc A1)
    (fin : ∀ acc A, I ds.length acc A → P acc A) : compL t tt te s ds [] A P := by
  have := compL_from ds I step fin ds.length 0 [] A (Nat.zero_add _) h0
  rwa [List.drop_zero] at this
theorem minI_snoc {xs : List Int} {x : Int} (h : xs ≠ []) : minI (xs ++ [x]) = min (minI xs) x := by
  have hp : 0 < xs.length := List.length_pos_iff.mpr h
  obtain ⟨m1, m2⟩ := minI_mem hp
  refine (minI_uniq (by rw [List.length_append]; exact Nat.succ_pos _) ?_ ?_).symm
  · rcases Int.le_total (minI xs) x with q | q
    · rw [Int.min_eq_left q]; exact List.mem_append_left _ m1
    · rw [Int.min_eq_right q]; exact List.mem_append_right _ (List.mem_singleton.mpr rfl)
  · intro y hy
    rcases List.mem_append.mp hy with q | q
    · exact Int.le_trans (Int.min_le_left _ _) (m2 y q)
    · rw [List.mem_singleton.mp q]; exact Int.min_le_right _ _
theorem minI_one {x : Int} : minI [x] = x := rfl
/-- a slice of numbers -/
theorem cut_ints {ns : List Int} {a b : Nat} (hb : b ≤ ns.length) : cutD (ns.map .int) (some (a : Int)) (some (b : Int)) = ((ns.drop a).take (b - a)).map .int := by
  unfold cutD
  rw [List.length_map, HT.sIx_nat, HT.sIx_nat, Nat.min_eq_left hb, ← List.map_drop, ← List.map_take]
  by_cases ha : a ≤ ns.length
  · rw [Nat.min_eq_left ha]
  · rw [Nat.min_eq_right (by omega), List.drop_eq_nil_of_le (Nat.le_refl _), List.drop_eq_nil_of_le (by omega : ns.length ≤ a), List.take_nil, List.take_nil]
/-! ### dicts: what is put, what is got -/
section
variable {κ : Type} [DecidableEq κ] {α : Type}
theorem getA_nil {k : κ} : getA ([] : List (κ × α)) k = none := rfl
theorem getA_cons {a : κ × α} {r : List (κ × α)} {k : κ} : getA (a :: r) k = if a.1 = k then some a.2 else getA r k := by
  unfold getA
  rw [List.find?_cons]
  by_cases h : a.1 = k
  · rw [decide_eq_true h, if_pos h]; rfl
  · rw [decide_eq_false h, if_neg h]
theorem getA_none {kvs : List (κ × α)} {k : κ} (h : hasA kvs k = false) : getA kvs k = none := by
  have := hasA_get kvs k
  rw [h] at this
  cases e : getA kvs k with
  | none => rfl
  | some x => rw [e] at this; cases this
theorem getA_append {xs ys : List (κ × α)} {k : κ} : getA (xs ++ ys) k = (getA xs k).or (getA ys k) := by
  induction xs with
  | nil => rfl
  | cons a r ih =>
    rw [List.cons_append, getA_cons, getA_cons, ih]
    split <;> rfl
theorem getA_swap {kvs : List (κ × α)} {k k' : κ} {v : α} : getA (kvs.map fun kv => if kv.1 = k then (kv.1, v) else kv) k' = if k' = k then (getA kvs k').map (fun _ => v) else getA kvs k' := by
  induction kvs with
  | nil => split <;> rfl
  | cons a r ih =>
    rw [List.map_cons, getA_cons, getA_cons, ih]
    by_cases h : a.1 = k
    · rw [if_pos h]
      by_cases h2 : k' = k
      · rw [if_pos h2, if_pos h2, if_pos (show a.1 = k' from h.trans h2.symm), if_pos (h.trans h2.symm)]; rfl
      · rw [if_neg h2, if_neg h2, if_neg (show ¬ a.1 = k' from fun z => h2 (z.symm.trans h)), if_neg (fun z => h2 (z.symm.trans h))]
    · rw [if_neg h]
      by_cases h2 : k' = k
      · rw [if_pos h2, if_pos h2, if_neg (fun z => h (z.trans h2)), if_neg (fun z => h (z.trans h2))]
      · rw [if_neg h2, if_neg h2]
theorem getA_putA {kvs : List (κ × α)} {k k' : κ} {v : α} : getA (putA kvs k v) k' = if k' = k then some v else getA kvs k' := by
  unfold putA
  cases h : hasA kvs k with
  | true =>
    rw [if_pos rfl, getA_swap]
    split
    · rename_i q
      have := hasA_get kvs k
      rw [h] at this
      rw [q]
      cases e : getA kvs k with
      | none => rw [e] at this; cases this
      | some x => rfl
    · rfl
  | false =>
    rw [if_neg Bool.false_ne_true, getA_append, getA_cons, getA_nil]
    by_cases q : k' = k
    · rw [if_pos q, if_pos (show (k, v).1 = k' from q.symm), q, getA_none h]; rfl
    · rw [if_neg q, if_neg (show ¬ (k, v).1 = k' from fun z => q z.symm), Option.or_none]
theorem getA_merge {k : κ} {v : α} : ∀ (ps : List (κ × α)) (acc : List (κ × α)), (∀ p ∈ ps, p.1 = k → p.2 = v) → ((∃ p ∈ ps, p.1 = k) ∨ getA acc k = some v) → getA (mergeA acc ps) k = some v
  | [], acc, _, h => by
    rcases h with ⟨p, hp, _⟩ | h
    · cases hp
    · exact h
  | p :: ps, acc, h1, h2 => by
    show getA (mergeA (putA acc p.1 p.2) ps) k = some v
    refine getA_merge ps _ (fun q hq => h1 q (List.mem_cons_of_mem _ hq)) ?_
    by_cases hk : p.1 = k
    · right
      rw [getA_putA, if_pos hk.symm, h1 p (List.mem_cons_self ..) hk]
    · rcases h2 with ⟨q, hq, e⟩ | h2
      · rcases List.mem_cons.mp hq with z | z
        · exact absurd (z ▸ e) hk
        · exact .inl ⟨q, z, e⟩
      · right
        rw [getA_putA, if_neg (fun z => hk z.symm)]
        exact h2
end
theorem mergeA_length {κ : Type} [DecidableEq κ] : ∀ (ps : List (κ × D)) (acc : List (κ × D)), (mergeA acc ps).length ≤ acc.length + ps.length
  | [], acc => Nat.le_refl _
  | p :: ps, acc => by
    have h1 := mergeA_length ps (putA acc p.1 p.2)
    have h2 := putA_length acc p.1 p.2
    show (mergeA (putA acc p.1 p.2) ps).length ≤ _
    rw [List.length_cons]
    omega
theorem ditD_mut {A : MH} {a : Addr} : ditD A (.mut a) = match A a with | some (.dit kvs) => some kvs | _ => none := rfl
theorem qIx_tup {xs : List D} {i : Int} {A : MH} {P : KQ} : qIx (.tup xs) (.int i) A P = okQ (atI xs i) fun d => P d A := rfl
theorem qIx_lst {xs : List D} {i : Int} {A : MH} {P : KQ} : qIx (.lst xs) (.int i) A P = okQ (atI xs i) fun d => P d A := rfl
theorem keysT_2 {i j : Int} : keysT [.int i, .int j] = some [.inl i, .inl j] := rfl
theorem at2 {A : MH} {a b : Addr} {x y : MO} (h : b ≠ a) : ((A.set a x).set b y) a = some x := by rw [MH.set_ne (Ne.symm h), MH.set_same]
theorem set2a {A : MH} {a b : Addr} {x y z : MO} (h : b ≠ a) : ((A.set a x).set b y).set a z = (A.set a z).set b y := by rw [MH.set_comm h, MH.set_set]
theorem two_le : ([] : List D).length + 1 + 1 ≤ 100000 := by decide
theorem isN_tup {xs : List D} : isN (.tup xs) = false := rfl
theorem isN_lst {xs : List D} : isN (.lst xs) = false := rfl
theorem isN_int {i : Int} : isN (.int i) = false := rfl
theorem isN_dic {xs : List (Key × D)} : isN (.dic xs) = false := rfl
theorem at_nat {xs : List D} {i : Nat} : L2.atI xs (i : Int) = xs[i]? := by
  unfold L2.atI ixN
  by_cases h : i < xs.length
  · simp [h, show ¬ ((i : Int) < 0) by omega, show (i : Int) < xs.length by omega]
  · simp [h, show ¬ ((i : Int) < 0) by omega, show ¬ (i : Int) < xs.length by omega]
theorem at_zero {x : D} {xs : List D} : L2.atI (x :: xs) 0 = some x := at_nat (i := 0)
/-! ### a comprehension within one -/
theorem lookup_mapk {g : Str → NameKind → NameKind} : ∀ (names : List (Str × NameKind)) (x : Str), (names.map fun p => (p.1, g p.1 p.2)).lookup x = (names.lookup x).map (g x)
  | [], _ => rfl
  | (n, k) :: r, x => by
    rw [List.map_cons, List.lookup_cons, List.lookup_cons, lookup_mapk r x]
    cases h : x == n with
    | true => have := eq_of_beq h; subst this; rfl
    | false => rfl
def rlK (env : Env) (n : Str) (k : NameKind) : NameKind := if (k == .free && env.scope.kind == .function && env.kindOf n == some .cell) then .cell else k
theorem blkC_relabel {N : List Str} {sc scope : Scope} {env : Env} {own : List (Str × Nat)} (h : blkC N sc scope own = true) : blkC N (relabel sc env) scope own = true := by
  unfold blkC at *
  simp only [Bool.and_eq_true, List.all_eq_true, decide_eq_true_eq] at h ⊢
  obtain ⟨⟨⟨h1, h2⟩, h3⟩, h4⟩ := h
  refine ⟨⟨⟨h1, h2⟩, h3⟩, fun y hy => ?_⟩
  have q := h4 y hy
  cases e : y.2 with
  | free =>
    rw [e] at q
    show (match (relabel sc env).names.lookup y.1 with | some .cell => true | some .free => true | _ => false) = true
    have hm : (relabel sc env).names = sc.names.map fun p => (p.1, rlK env p.1 p.2) := by
      unfold relabel
      refine List.map_congr_left fun p _ => ?_
      obtain ⟨n, k⟩ := p
      show (if (k == NameKind.free && env.scope.kind == .function && env.kindOf n == some .cell) = true then (n, NameKind.cell) else (n, k)) = (n, if (k == NameKind.free && env.scope.kind == .function && env.kindOf n == some .cell) = true then NameKind.cell else k)
      by_cases z : (k == NameKind.free && env.scope.kind == .function && env.kindOf n == some .cell) = true
      · rw [if_pos z, if_pos z]
      · rw [if_neg z, if_neg z]
    rw [hm, lookup_mapk (g := rlK env)]
    cases el : sc.names.lookup y.1 with
    | none => rw [el] at q; cases q
    | some kk =>
      rw [el] at q
      show (match some (rlK env y.1 kk) with | some .cell => true | some .free => true | _ => false) = true
      cases kk <;> first | (cases q; done) | skip
      · have : rlK env y.1 NameKind.cell = .cell := by unfold rlK; split <;> rfl
        rw [this]
      · have : rlK env y.1 NameKind.free = .cell ∨ rlK env y.1 NameKind.free = .free := by
          unfold rlK
          split
          · exact .inl rfl
          · exact .inr rfl
        rcases this with z | z <;> rw [z]
  | «local» => rw [e] at q; exact q
  | cell => rw [e] at q; exact q
  | _ => rfl
end Qd


set_option Elab.async false
set_option linter.all false
set_option maxRecDepth 100000
set_option maxHeartbeats 4000000
/-! Second layer, part W: plain data: nothing in it can change. -/
namespace Qd
open PySem L2
mutual
def plD : D → Bool
  | .non => true | .bl _ => true | .int _ => true | .str _ => true
  | .tup xs => decide (xs.length ≤ 100000) && plDs xs
  | .lst xs => decide (xs.length ≤ 100000) && plDs xs
  | .dic kvs => decide (kvs.length ≤ 100000) && plKs kvs
  | .gdc kvs => decide (kvs.length ≤ 100000) && plPs kvs
  | _ => false
def plDs : List D → Bool
  | [] => true
  | x :: xs => plD x && plDs xs
def plKs : List (Key × D) → Bool
  | [] => true
  | (_, x) :: xs => plD x && plKs xs
def plPs : List (D × D) → Bool
  | [] => true
  | (k, x) :: xs => plD k && (plD x && plPs xs)
end
theorem plDs_all {xs : List D} : plDs xs = true ↔ ∀ x ∈ xs, plD x = true := by
  induction xs with
  | nil => exact ⟨fun _ x h => (by cases h), fun _ => rfl⟩
  | cons a r ih =>
    rw [plDs, Bool.and_eq_true, ih]
    exact ⟨fun ⟨h1, h2⟩ x hx => (List.mem_cons.mp hx).elim (fun e => e ▸ h1) (h2 x), fun h => ⟨h a (List.mem_cons_self ..), fun x hx => h x (List.mem_cons_of_mem _ hx)⟩⟩
def tyF : D → Ty
  | .non => .non | .bl _ => .bl | .int _ => .int | .str _ => .str | .tup _ => .tup | .lst _ => .lst | .frl _ => .lst | .dic _ => .dic | .gdc _ => .dic
  | _ => .non
theorem pl_ty {A : MH} {d : D} (h : plD d = true) : tyQ A d = some (tyF d) := by
  cases d <;> first | rfl | cases h
def seqF : D → Option (List D)
  | .lst xs => some xs
  | .tup xs => some xs
  | _ => none
theorem seqF_len {A : MH} {d : D} {xs : List D} (h : seqF d = some xs) : lenD A d = some xs.length := by
  cases d <;> first | (cases h; done) | (cases h; rfl)
theorem seqF_it {d : D} {xs : List D} (h : seqF d = some xs) : itD d = some xs := by
  cases d <;> first | (cases h; done) | (cases h; rfl)
theorem seqF_pl {d : D} {xs : List D} (h : seqF d = some xs) (p : plD d = true) : plDs xs = true := by
  cases d <;> first | (cases h; done) | (cases h; exact (Bool.and_eq_true_iff.mp p).2)
theorem seqF_big {d : D} {xs : List D} (h : seqF d = some xs) (p : plD d = true) : xs.length ≤ 100000 := by
  cases d <;> first | (cases h; done) | (cases h; exact of_decide_eq_true (Bool.and_eq_true_iff.mp p).1)
theorem seqF_ix {d : D} {xs : List D} {i : Int} {A : MH} {P : KQ} (h : seqF d = some xs) : qIx d (.int i) A P = okQ (L2.atI xs i) fun d => P d A := by
  cases d <;> first | (cases h; done) | (cases h; rfl)
theorem pl_seq {d : D} (p : plD d = true) : (seqF d).isSome = (decide (tyF d = .lst) || decide (tyF d = .tup)) := by
  cases d <;> first | rfl | cases p
theorem seqF_enum {d : D} {xs : List D} {s : SQ} {A : MH} {P : List D → MH → Prop} {te : TQ} (h : seqF d = some xs) (hte : ∀ Q : KQ, te s A Q = Q d A) (q : P (numL xs) A) : qEnum te s A P := by
  unfold qEnum
  rw [hte]
  cases d <;> first | (cases h; done) | (cases h; exact q)
/-! ### == of things that may change -/
section
variable {X : Cx} {T : Tz} {a b : Expr} {ta tb : TQ} {pos : Pos}
def qEqV (n : Nat) (neg : Bool) : R2Q := fun x y A P => okQ (viewN n A x) fun x' => okQ (viewN n A y) fun y' => okQ (eqD x' y') fun b => P (.bl (if neg then !b else b)) A
theorem eqV_cases {K : PySem.W.Frag} {n : Nat} {neg : Bool} {F A H x y xv yv} {P : KQ} {Q : VK} (R : RS K T F A H) (rx : Rep K F xv x) (ry : Rep K F yv y) (h : qEqV n neg x y A P) (k : ∀ d A' v H' F', P d A' → Go K T F A H F' A' H' → Rep K F' v d → Q v H') :
    ∃ b : Bool, Q (.bl (if neg then !b else b)) H ∧ ((scal xv yv = true ∧ decide (xv = yv) = b) ∨ ∃ d d2, Dp K H xv d ∧ Dp K H yv d2 ∧ SeqAt.shaped d = true ∧ SeqAt.shaped d2 = true ∧ PyData.eqv d d2 = b) := by
  unfold qEqV at h
  obtain ⟨x', e1, h⟩ := okQ_iff.mp h
  obtain ⟨y', e2, h⟩ := okQ_iff.mp h
  obtain ⟨b, e3, h⟩ := okQ_iff.mp h
  have rx' := viewN_ok R.r0 n e1 rx
  have ry' := viewN_ok R.r0 n e2 ry
  refine ⟨b, k _ _ _ _ _ h R.go (.bl _), ?_⟩
  unfold eqD at e3
  cases h1 : eqS x' y' with
  | some b' =>
    rw [h1] at e3; cases e3
    exact .inl (eqS_rep rx' ry' h1)
  | none =>
    rw [h1] at e3
    exact .inr (eqP_rep (lent_ok R.r0).1.sub rx' ry' e3)
theorem rel_eqV {K : PySem.W.Frag} {n : Nat} : Rel2 K T (fun x y H Q => rEq x y H Q ∨ rEqD K x y H Q) (qEqV n false) := by
  intro F A H x y xv yv P Q R rx ry h k
  obtain ⟨b, q, h | ⟨d, d2, q1, q2, q3, q4, q5⟩⟩ := eqV_cases R rx ry h k
  · exact .inl ⟨h.1, by rw [h.2]; exact q⟩
  · exact .inr ⟨d, d2, q1, q2, q3, q4, by rw [q5]; exact q⟩
theorem rel_neV {K : PySem.W.Frag} {n : Nat} : Rel2 K T (fun x y H Q => rNe x y H Q ∨ rNeD K x y H Q) (qEqV n true) := by
  intro F A H x y xv yv P Q R rx ry h k
  obtain ⟨b, q, h | ⟨d, d2, q1, q2, q3, q4, q5⟩⟩ := eqV_cases R rx ry h k
  · exact .inl ⟨h.1, by rw [h.2]; exact q⟩
  · exact .inr ⟨d, d2, q1, q2, q3, q4, by rw [q5]; exact q⟩
theorem pq_eqv (n : Nat) (hu : X.A.units + 64 < cLine) (ha : PQ X T a ta) (hb : PQ X T b tb) : PQ X T (.Compare a [.Eq] [b] pos) (qOp (qEqV n false) ta tb) := pq_cmp rel_eqV (OpR.or op_eq (op_eqD hu)) ha hb (nomark _)
theorem pq_nev (n : Nat) (hu : X.A.units + 64 < cLine) (ha : PQ X T a ta) (hb : PQ X T b tb) : PQ X T (.Compare a [.NotEq] [b] pos) (qOp (qEqV n true) ta tb) := pq_cmp rel_neV (OpR.or op_ne (op_neD hu)) ha hb (nomark _)
theorem ptq_eqv (n : Nat) (hu : X.A.units + 64 < cLine) (ha : PQ X T a ta) (hb : PQ X T b tb) : PTQ X T (.Compare a [.Eq] [b] pos) (qTest (qOp (qEqV n false) ta tb)) := ptq_cmp rel_eqV (OpR.or op_eq (op_eqD hu)) ha hb (nomark _)
theorem ptq_nev (n : Nat) (hu : X.A.units + 64 < cLine) (ha : PQ X T a ta) (hb : PQ X T b tb) : PTQ X T (.Compare a [.NotEq] [b] pos) (qTest (qOp (qEqV n true) ta tb)) := ptq_cmp rel_neV (OpR.or op_ne (op_neD hu)) ha hb (nomark _)
end
theorem qIx_mut {A : MH} {a : Addr} {i : Int} {P : KQ} {xs : List D} (h : A a = some (.lst xs)) : qIx (.mut a) (.int i) A P = okQ (L2.atI xs i) fun d => P d A := by
  show (match A a with | some (.lst xs) => okQ (L2.atI xs i) fun d => P d A | _ => False) = _
  rw [h]
theorem setL_mut {A : MH} {a : Addr} {i : Int} {v : D} {P : MH → Prop} {xs : List D} (h : A a = some (.lst xs)) : setL (.mut a) (.int i) v A P = okQ (ixN xs.length i) fun n => P (A.set a (.lst (xs.set n v))) := by
  show (match A a with | some (.lst xs) => okQ (ixN xs.length i) fun n => P (A.set a (.lst (xs.set n v))) | _ => False) = _
  rw [h]
theorem ix_nat {n i : Nat} (h : i < n) : ixN n (i : Int) = some i := by
  unfold ixN
  rw [if_pos (by omega), if_pos (by omega), Int.toNat_natCast]
theorem app_mut {A : MH} {a : Addr} {y : D} {P : KQ} {xs : List D} (h : A a = some (.lst xs)) : rAppQ (.mut a) [y] A P = (xs.length < 100000 ∧ P .non (A.set a (.lst (xs ++ [y])))) := by
  show (match A a with | some (.lst xs) => xs.length < 100000 ∧ P .non (A.set a (.lst (xs ++ [y]))) | _ => False) = _
  rw [h]
theorem pop_mut {A : MH} {a : Addr} {i : Int} {P : KQ} {xs : List D} (h : A a = some (.lst xs)) : rPopQ (.mut a) [.int i] A P = (0 ≤ i ∧ i < 100000 ∧ okQ (xs[i.toNat]?) fun y => P y (A.set a (.lst (xs.eraseIdx i.toNat)))) := by
  show (match A a with | some (.lst xs) => 0 ≤ i ∧ i < 100000 ∧ okQ (xs[i.toNat]?) fun y => P y (A.set a (.lst (xs.eraseIdx i.toNat))) | _ => False) = _
  rw [h]
theorem at4_0 {p q r s : D} : L2.atI [p, q, r, s] 0 = some p := rfl
theorem at4_1 {p q r s : D} : L2.atI [p, q, r, s] 1 = some q := rfl
theorem at4_2 {p q r s : D} : L2.atI [p, q, r, s] 2 = some r := rfl
theorem at4_3 {p q r s : D} : L2.atI [p, q, r, s] 3 = some s := rfl
theorem ix4_1 : ixN (0 + 1 + 1 + 1 + 1) 1 = some 1 := rfl
theorem ix4_2 : ixN (0 + 1 + 1 + 1 + 1) 2 = some 2 := rfl
theorem ix4_3 : ixN (0 + 1 + 1 + 1 + 1) 3 = some 3 := rfl
theorem isLm_mut {A : MH} {a : Addr} {xs : List D} (h : A a = some (.lst xs)) : qMeth.isLm A (.mut a) = True := by
  unfold qMeth.isLm
  simp [h]
theorem toPys_ints : ∀ cs : List Int, toPys (cs.map .int) = some (cs.map .int)
  | [] => rfl
  | c :: cs => by
    rw [List.map_cons]
    show (match toPy (.int c), toPys (cs.map .int) with | some d, some ds => some (d :: ds) | _, _ => none) = _
    rw [toPys_ints cs]
    rfl
theorem canLay_ints : ∀ cs : List Int, PyData.canLayAll0 (cs.map .int) = true
  | [] => by simp [PyData.canLayAll0]
  | c :: cs => by simp [PyData.canLayAll0, PyData.canLay0, canLay_ints cs]
theorem depth_ints : ∀ cs : List Int, PyData.depthAll (cs.map .int) ≤ 1
  | [] => by simp [PyData.depthAll]
  | c :: cs => by
    have := depth_ints cs
    simp [PyData.depthAll, PyData.depth]
    omega
theorem shaped_ints (cs : List Int) : SeqAt.shaped (.list (cs.map .int)) = true := by
  unfold SeqAt.shaped
  rw [Bool.and_eq_true]
  refine ⟨?_, decide_eq_true ?_⟩
  · simp [PyData.canLay0, canLay_ints cs]
  · have := depth_ints cs
    simp [PyData.depth]
    omega
theorem eqD_nil (cs : List Int) : eqD (.lst (cs.map .int)) (.lst []) = some (decide (cs = [])) := by
  have e : eqP (.lst (cs.map .int)) (.lst []) = some (decide (cs = [])) := by
    unfold eqP
    rw [show toPy (.lst (cs.map .int)) = some (.list (cs.map .int)) by unfold toPy; rw [toPys_ints]; rfl, show toPy (.lst []) = some (.list []) from rfl]
    show (if SeqAt.shaped (.list (cs.map .int)) = true ∧ SeqAt.shaped (.list []) = true then some (PyData.eqv (.list (cs.map .int)) (.list [])) else none) = _
    rw [if_pos ⟨shaped_ints cs, shaped_ints []⟩]
    cases cs with
    | nil => simp [PyData.eqv, PyData.eqvAll]
    | cons c cs => simp [PyData.eqv, PyData.eqvAll]
  unfold eqD
  rw [show eqS (.lst (cs.map .int)) (.lst []) = none from rfl]
  exact e
theorem view_ints {n : Nat} {A : MH} : ∀ cs : List Int, viewL (viewN n A) (cs.map .int) = some (cs.map .int)
  | [] => rfl
  | c :: cs => by
    rw [List.map_cons]
    unfold viewL
    rw [view_ints cs]
    have : viewN n A (.int c) = some (.int c) := by cases n <;> rfl
    rw [this]
theorem view_mut {n : Nat} {A : MH} {a : Addr} {cs : List Int} (h : A a = some (.lst (cs.map .int))) : viewN (n + 1) A (.mut a) = some (.lst (cs.map .int)) := by
  show (match A a with | some (.lst ds) => (viewL (viewN n A) ds).map D.lst | _ => none) = _
  rw [h]
  show (viewL (viewN n A) (cs.map .int)).map D.lst = _
  rw [view_ints]
  rfl
theorem view_nil {n : Nat} {A : MH} : viewN (n + 1) A (.lst []) = some (.lst []) := rfl
theorem len_mut {A : MH} {a : Addr} {xs : List D} (h : A a = some (.lst xs)) : lenD A (.mut a) = some xs.length := by
  show (match A a with | some (.lst xs) => some xs.length | some (.dic kvs) => some kvs.length | _ => none) = _
  rw [h]
theorem fz_mut {t : TQ} {s : SQ} {A : MH} {a : Addr} {xs : List D} {P : KQ} (h : A a = some (.lst xs)) (ht : ∀ Q : KQ, t s A Q = Q (.mut a) A) : qFz t s A P = P (.lst xs) (A.del a) := by
  unfold qFz
  rw [ht]
  show (match A a with | some (.lst ds) => P (.lst ds) (A.del a) | _ => False) = _
  rw [h]
theorem perm_erase {α : Type} : ∀ (xs : List α) (j : Nat) (h : j < xs.length), (xs[j] :: xs.eraseIdx j).Perm xs
  | x :: xs, 0, _ => .refl _
  | x :: xs, j + 1, h => by
    have h' : j < xs.length := Nat.lt_of_succ_lt_succ h
    have := perm_erase xs j h'
    show (xs[j] :: x :: xs.eraseIdx j).Perm (x :: xs)
    exact (List.Perm.swap x xs[j] _).trans (this.cons x)
mutual
/-- how deep data goes, as a comparison item by item goes into it -/
def dep : D → Nat
  | .tup xs => deps xs + 1
  | .lst xs => deps xs + 1
  | .dic kvs => depK kvs + 3
  | .gdc kvs => depP kvs + 3
  | _ => 0
def deps : List D → Nat
  | [] => 0
  | x :: xs => max (dep x) (deps xs)
def depK : List (Key × D) → Nat
  | [] => 0
  | (_, x) :: xs => max (dep x) (depK xs)
def depP : List (D × D) → Nat
  | [] => 0
  | (k, x) :: xs => max (dep k) (max (dep x) (depP xs))
end
theorem deps_le {xs : List D} {x : D} (h : x ∈ xs) : dep x ≤ deps xs := by
  induction xs with
  | nil => cases h
  | cons a r ih =>
    rw [deps]
    rcases List.mem_cons.mp h with e | e
    · rw [e]; exact Nat.le_max_left _ _
    · exact Nat.le_trans (ih e) (Nat.le_max_right _ _)
theorem pl_kD (k : Key) : plD (kD k) = true ∧ dep (kD k) = 0 := by cases k <;> exact ⟨rfl, rfl⟩
theorem items_pl : ∀ {ps : List (D × D)}, plPs ps = true → plDs (ps.map fun p => .tup [p.1, p.2]) = true
  | [], _ => rfl
  | (k, x) :: r, h => by
    rw [plPs, Bool.and_eq_true, Bool.and_eq_true] at h
    rw [List.map_cons, plDs, items_pl h.2.2]
    have : plD (.tup [k, x]) = true := by
      rw [plD, plDs, plDs, plDs, h.1, h.2.1]; rfl
    show (plD (.tup [k, x]) && true) = true
    rw [this]; rfl
theorem items_dep : ∀ {ps : List (D × D)}, deps (ps.map fun p => .tup [p.1, p.2]) ≤ depP ps + 1
  | [] => Nat.zero_le _
  | (k, x) :: r => by
    have := items_dep (ps := r)
    rw [List.map_cons, deps, depP]
    show max (max (dep k) (max (dep x) 0) + 1) _ ≤ _
    omega
theorem plKs_P : ∀ {kvs : List (Key × D)}, plKs kvs = true → plPs (kvs.map fun p => (kD p.1, p.2)) = true
  | [], _ => rfl
  | (k, x) :: r, h => by
    rw [plKs, Bool.and_eq_true] at h
    rw [List.map_cons, plPs, plKs_P h.2, (pl_kD k).1, h.1]; rfl
theorem depK_P : ∀ {kvs : List (Key × D)}, depP (kvs.map fun p => (kD p.1, p.2)) = depK kvs
  | [] => rfl
  | (k, x) :: r => by
    rw [List.map_cons, depP, depK, depK_P, (pl_kD k).2, Nat.zero_max]
end Qd


set_option Elab.async false
set_option linter.all false
set_option maxRecDepth 100000
set_option maxHeartbeats 4000000
/-! Second layer, part X: comprehensions over mapped lists, loops the other way about, freezing, plain bounded data. -/
namespace Qd
open PySem L2
theorem mapO_some {α β : Type} (g : α → β) : ∀ xs : List α, mapO (fun x => some (g x)) xs = some (xs.map g)
  | [] => rfl
  | x :: xs => by
    show (match some (g x), mapO (fun x => some (g x)) xs with | some y, some ys => some (y :: ys) | _, _ => none) = _
    rw [mapO_some g xs]; rfl
theorem compL_acc {γ : Type} {t : Tgt} {te : TQ} {s : SQ} {A : MH} {P : List D → MH → Prop} (k g : γ → D) : ∀ (ys : List γ) (acc : List D), acc.length + ys.length ≤ 100000 →
    (∀ y ∈ ys, ∀ Q : KQ, Q (g y) A → okQ (tset t (k y) s) fun s' => te s' A Q) → P (acc ++ ys.map g) A → compL t qYes te s (ys.map k) acc A P
  | [], acc, _, _, h => by
    rw [List.map_nil, List.append_nil] at h
    exact h
  | y :: ys, acc, hl, h, fin => by
    rw [List.length_cons] at hl
    have h1 := h y (List.mem_cons_self ..) (fun v A2 => acc.length < 100000 ∧ compL t qYes te s (ys.map k) (acc ++ [v]) A2 P)
      ⟨by omega, compL_acc k g ys (acc ++ [g y]) (by rw [List.length_append, List.length_singleton]; omega) (fun z hz => h z (List.mem_cons_of_mem _ hz)) (by rw [List.append_assoc]; exact fin)⟩
    rw [List.map_cons]
    unfold compL
    cases e : tset t (k y) s with
    | none => rw [e] at h1; exact h1.elim
    | some s' => rw [e] at h1; exact h1
theorem compL_of {γ : Type} {t : Tgt} {te : TQ} {s : SQ} {A : MH} {P : List D → MH → Prop} (k g : γ → D) (ys : List γ) (hl : ys.length ≤ 100000)
    (h : ∀ y ∈ ys, ∀ Q : KQ, Q (g y) A → okQ (tset t (k y) s) fun s' => te s' A Q) (fin : P (ys.map g) A) : compL t qYes te s (ys.map k) [] A P :=
  compL_acc k g ys [] (by simpa using hl) h (by simpa using fin)
theorem compL_fn {t : Tgt} {te : TQ} {s : SQ} {A : MH} {P : List D → MH → Prop} (g : D → D) (xs : List D) (hl : xs.length ≤ 100000)
    (h : ∀ y ∈ xs, ∀ Q : KQ, Q (g y) A → okQ (tset t y s) fun s' => te s' A Q) (fin : P (xs.map g) A) : compL t qYes te s xs [] A P := by
  have := compL_of (t := t) (te := te) (s := s) (A := A) (P := P) id g xs hl h fin
  rwa [List.map_id] at this
theorem compL_id {t : Tgt} {te : TQ} {s : SQ} {A : MH} {P : List D → MH → Prop} (xs : List D) (hl : xs.length ≤ 100000)
    (h : ∀ y ∈ xs, ∀ Q : KQ, Q y A → okQ (tset t y s) fun s' => te s' A Q) (fin : P xs A) : compL t qYes te s xs [] A P := compL_fn id xs hl h (by rw [List.map_id]; exact fin)
theorem compL_rng {t : Tgt} {te : TQ} {s : SQ} {A : MH} {P : List D → MH → Prop} {lo : Int} {n : Nat} (g : Nat → D) (hn : n ≤ 100000)
    (h : ∀ i, i < n → ∀ Q : KQ, Q (g i) A → okQ (tset t (.int (lo + (i : Nat))) s) fun s' => te s' A Q) (fin : P ((List.range n).map g) A) : compL t qYes te s (rngD lo n) [] A P :=
  compL_of (fun i : Nat => .int (lo + (i : Nat))) g (List.range n) (by rw [List.length_range]; exact hn) (fun i hi => h i (List.mem_range.mp hi)) fin
/-- a comprehension whose items may change the state: item i is R-related -/
theorem compL_st {t : Tgt} {te : TQ} {s : SQ} {A : MH} {P : List D → MH → Prop} {ds : List D} (I : Nat → MH → Prop) (R : Nat → D → D → Prop) (hl : ds.length ≤ 100000) (h0 : I 0 A)
    (step : ∀ i x A, ds[i]? = some x → I i A → ∀ Q : KQ, (∀ y A', R i x y → I (i + 1) A' → Q y A') → okQ (tset t x s) fun s' => te s' A Q)
    (fin : ∀ out A', out.length = ds.length → (∀ i x y, ds[i]? = some x → out[i]? = some y → R i x y) → I ds.length A' → P out A') : compL t qYes te s ds [] A P := by
  refine compL_ix (fun i acc A => acc.length = i ∧ I i A ∧ ∀ j x y, ds[j]? = some x → acc[j]? = some y → R j x y) ⟨rfl, h0, fun j x y _ h => by simp at h⟩ ?_ fun acc A ⟨h1, h2, h3⟩ => fin acc A h1 h3 h2
  rintro i x acc A N hx ⟨rfl, hi, hr⟩ next
  have hlt : acc.length < ds.length := (List.getElem?_eq_some_iff.mp hx).1
  have h1 := step acc.length x A hx hi (fun y A2 => acc.length < 100000 ∧ N (acc ++ [y]) A2) fun y A' hy hi' => ⟨by omega, next _ _ ⟨by rw [List.length_append]; rfl, hi', fun j x2 y2 h2 h3 => ?_⟩⟩
  · exact h1
  · by_cases hj : j < acc.length
    · rw [List.getElem?_append_left hj] at h3
      exact hr j x2 y2 h2 h3
    · have hjl : j < (acc ++ [y]).length := (List.getElem?_eq_some_iff.mp h3).1
      rw [List.length_append, List.length_singleton] at hjl
      obtain rfl : j = acc.length := by omega
      rw [List.getElem?_append_right (Nat.le_refl _), Nat.sub_self] at h3
      cases h3
      rw [hx] at h2; cases h2
      exact hy
/-- a loop over n - 1, .., 0 -/
theorem runL_down {t : Tgt} {tb : TSQ} {E : EndsQ} {n : Nat} {s : SQ} {A : MH} (I : Nat → SQ → MH → Prop) (h0 : I 0 s A)
    (step : ∀ i s A (N : SQ → MH → Prop), i < n → I i s A → (∀ s A, I (i + 1) s A → N s A) → okQ (tset t (.int ((n - 1 - i : Nat) : Int)) s) fun s' => tb { E with nx := N, ct := N, bk := E.nx } s' A) (fin : ∀ s A, I n s A → E.nx s A) : runL t tb E (rngD 0 n).reverse s A := by
  refine runL_ix I h0 (fun i x s A N hx hi next => ?_) fun s A h => fin s A (by rwa [List.length_reverse, rngD_len] at h)
  have hlt : i < n := by
    have := (List.getElem?_eq_some_iff.mp hx).1
    rwa [List.length_reverse, rngD_len] at this
  rw [List.getElem?_reverse (by rw [rngD_len]; exact hlt), rngD_len] at hx
  obtain ⟨_, rfl⟩ := rngD_get hx
  rw [Int.zero_add]
  exact step i s A N hlt hi next
/-- one statement at a time: what follows is a letter -/
theorem qSeq_st {t u : TSQ} {D : EndsQ} {s : SQ} {A : MH} (h : ∀ N : SQ → MH → Prop, (∀ s' A', u D s' A' → N s' A') → t { D with nx := N } s A) : qSeq t u D s A := h (u D) fun _ _ x => x
theorem perm_map {α β : Type} {f : α → β} {ys zs : List β} (h : ys.Perm zs) : ∀ l : List α, zs = l.map f → ∃ l' : List α, ys = l'.map f ∧ l'.Perm l := by
  induction h with
  | nil => intro l e; exact ⟨l, e, .refl _⟩
  | cons x _ ih =>
    intro l e
    cases l with
    | nil => cases e
    | cons a l =>
      injection e with e1 e2
      obtain ⟨l', h1, h2⟩ := ih l e2
      exact ⟨a :: l', by rw [List.map_cons, ← h1, e1], h2.cons a⟩
  | swap x y l0 =>
    intro l e
    match l, e with
    | a :: b :: l, e =>
      injection e with e1 e2; injection e2 with e2 e3
      exact ⟨b :: a :: l, by rw [List.map_cons, List.map_cons, ← e1, ← e2, ← e3], .swap a b l⟩
  | trans _ _ i1 i2 =>
    intro l e
    obtain ⟨l2, h1, h2⟩ := i2 l e
    obtain ⟨l3, h3, h4⟩ := i1 l2 h1
    exact ⟨l3, h3, h4.trans h2⟩
theorem any_seq {d : D} (p : plD d = true) : [Ty.lst, Ty.tup].any (tyF d).sub = (seqF d).isSome := by
  rw [pl_seq p]; cases tyF d <;> rfl
theorem rDict_lst {A : MH} {xs : List D} {kvs : List (Key × D)} {P : KQ} (h : pairsD xs = some kvs) (k : newD true (mergeA [] kvs) A P) : rDictQ [.lst xs] A P := by
  unfold rDictQ
  simp only [dicD, lstD, Option.bind_some, h, okQ_some]
  exact k
theorem rDict_dic {A : MH} {kvs : List (Key × D)} {P : KQ} (k : newD true kvs A P) : rDictQ [.dic kvs] A P := k
/-- a dict that is frozen at once -/
theorem newD_fz {kvs : List (Key × D)} {A : MH} {P : KQ} (h : P (.dic kvs) A) : newD true kvs A (fun d A1 => match d with
  | .mut a => match A1 a with
    | some (.dic kvs) => P (.dic kvs) (A1.del a)
    | _ => False
  | _ => False) := by
  intro a ha
  simp only [MH.set_same, MH.del_set ha]
  exact h
theorem cut_take {xs : List D} {b : Nat} : cutD xs none (some (b : Int)) = xs.take b := by
  unfold cutD
  rw [HT.sIx_nat, HT.sIx_none, List.drop_zero, Nat.sub_zero]
  by_cases h : b ≤ xs.length
  · rw [Nat.min_eq_left h]
  · rw [Nat.min_eq_right (by omega), List.take_of_length_le (Nat.le_refl _), List.take_of_length_le (by omega)]
theorem cut_drop {xs : List D} {b : Nat} : cutD xs (some (b : Int)) none = xs.drop b := by
  unfold cutD
  rw [HT.sIx_nat, HT.sIx_none]
  by_cases h : b ≤ xs.length
  · rw [Nat.min_eq_left h, List.take_of_length_le (by rw [List.length_drop]; omega)]
  · rw [Nat.min_eq_right (by omega), Nat.sub_self, List.take_zero, List.drop_eq_nil_of_le (by omega)]
theorem rngD_at {lo : Int} {n i : Nat} (h : i < n) : (rngD lo n)[i]? = some (.int (lo + (i : Nat))) := by
  unfold rngD
  rw [List.getElem?_map, List.getElem?_range h]; rfl
theorem newD_fz_eq {kvs : List (Key × D)} {A : MH} {P : KQ} : newD true kvs A (fun d A1 => match d with
  | .mut a => match A1 a with
    | some (.dic kvs) => P (.dic kvs) (A1.del a)
    | _ => False
  | _ => False) = (∀ a, A a = none → P (.dic kvs) A) := by
  refine propext ⟨fun h a ha => ?_, fun h a ha => ?_⟩
  · have := h a ha
    simp only [MH.set_same, MH.del_set ha] at this
    exact this
  · simp only [MH.set_same, MH.del_set ha]
    exact h a ha
/-- displays that are frozen at once -/
def qDispF (tr : TPQ) : TQ := fun s A P => tr s A fun ps A1 => ps.length ≤ 15 ∧ okQ (keyPs ps) fun kvs => ∀ a, A1 a = none → P (.dic (mergeA [] kvs)) A1
def qNewF : TQ := fun _ A P => ∀ a, A a = none → P (.dic []) A
def qDictF (t : TAQ) : TQ := fun s A P => t s A fun xs A1 => match xs with
  | [d] => match dicD A1 d with
    | some kvs => ∀ a, A1 a = none → P (.dic kvs) A1
    | none => okQ ((lstD A1 d).bind pairsD) fun kvs => ∀ a, A1 a = none → P (.dic (mergeA [] kvs)) A1
  | _ => False
section
variable {X : Cx} {T : Tz} {pos : Pos} {ks : List (Option Expr)} {vs : List Expr} {tr : TPQ} {e : Expr} {t : TAQ}
theorem pq_dispF (h : PPQ X T pos ks vs tr) (hall : ks.all (·.isSome) = true := by rfl) (hl : ks.length = vs.length := by rfl) (h0 : ks ≠ [] := by simp) (h15 : ks.length ≤ 15 := by decide) : PQ X T (.Dict ks vs pos) (qDispF tr) :=
  (pq_fzD (pq_disp h hall hl h0 h15)).wk fun s A P q => by
    unfold qDispF at q
    simp only [← newD_fz_eq] at q
    exact q
theorem pq_newF : PQ X T (.Dict [] [] pos) qNewF := (pq_fzD pq_newK).wk fun s A P q => by
    unfold qNewF at q
    simp only [← newD_fz_eq] at q
    exact q
theorem pq_dictF (h : PQ X T e (qCB rDictQ t)) : PQ X T e (qDictF t) := (pq_fzD h).wk fun s A P q => by
    unfold qDictF at q
    simp only [← newD_fz_eq] at q
    exact q
end
theorem at_rng {g : Nat → D} {n i : Nat} (h : i < n) : L2.atI ((List.range n).map g) (i : Int) = some (g i) := by
  rw [at_nat, List.getElem?_map, List.getElem?_range h]; rfl
theorem rng_cons {α : Type} (g : Nat → α) (n : Nat) : (List.range (n + 1)).map g = g 0 :: (List.range n).map fun j => g (j + 1) := by
  rw [List.range_succ_eq_map, List.map_cons, List.map_map]; rfl
/-- a raising call, where the way out is a letter (a lambda's body) -/
def qLX (x2 : XKQ) (r : RXQ) (t : TAQ) : TQ := fun s A P => t s A fun xs A1 => r xs A1 P x2
def qLKw (x2 : XKQ) (r : RXQ) (perm : List Nat) (t : TAQ) : TQ := fun s A P => t s A fun xs A1 => r (pick perm xs) A1 P x2
section
variable {X : Cx} {T : Tz} {k : Nat} {ar : Arguments} {ps : List Str} {rx : RXQ} {x : Str} {p pos : Pos} {e : Expr} {es : List Expr} {t : TAQ} {x2 : XKQ}
theorem pq_fnXL (G : DefX X.prog X.w X.K X.mg X.base k x ar ps rx) (hr : Room k X.A) (hx : Passes (L2.CX X.prog X.w) X T.xe) (ha : PAQ X T (e :: es) t) (h2 : T.x2 = x2 := by rfl) (hg : Gl X x := by rfl) (hdb : (x == ("__debug__" : Str)) = false := by decide)
    (he : starEach (e :: es) X.env = (false, eval e X.env) :: starEach es X.env := by rfl) (hpl : (backTo pos (starEach es X.env)).any (·.1) = false := by rfl) : PQ X T (.Call (.Name x p) (e :: es) [] pos) (qLX x2 rx t) := by
  subst h2; exact pq_fnX G hr hx ha hg hdb he hpl
theorem pq_kwXL {kws : List Keyword} {ks : List Str} {perm : List Nat} (G : DefX X.prog X.w X.K X.mg X.base k x ar ps rx) (hr : Room k X.A) (hx : Passes (L2.CX X.prog X.w) X T.xe) (hkw : PKQ X T kws t) (hko : KwOk ar ps ks perm) (h2 : T.x2 = x2 := by rfl) (hps : ps ≠ [] := by simp) (hks : (backToKw pos (keywordEach kws X.env)).filterMap (·.1) = ks := by rfl) (hg : Gl X x := by rfl)
    (hall : (backToKw pos (keywordEach kws X.env)).all (·.1.isSome) = true := by rfl) (hdb : (x == ("__debug__" : Str)) = false := by decide)
    (hpl : ((backTo pos (starEach [] X.env)).any (·.1) || (backToKw pos (keywordEach kws X.env)).any (·.1.isNone)) = false := by rfl) : PQ X T (.Call (.Name x p) [] kws pos) (qLKw x2 rx perm t) := by
  subst h2; exact pq_kwX G hr hx hkw hko hps hks hg hall hdb hpl
end
/-! ### freezing -/
theorem fzN_pl {n : Nat} {d : D} {A : MH} (h : plD d = true) : fzN n d A = some (d, A) := by
  cases n <;> cases d <;> first | rfl | cases h
theorem fzL_pl {n : Nat} {A : MH} : ∀ {xs : List D}, plDs xs = true → fzL (fzN n) xs A = some (xs, A)
  | [], _ => rfl
  | x :: xs, h => by
    rw [plDs, Bool.and_eq_true] at h
    unfold fzL
    rw [fzN_pl h.1]
    show (match fzL (fzN n) xs A with | some (r', A2) => some (x :: r', A2) | none => none) = _
    rw [fzL_pl h.2]
theorem fzN_lst {n : Nat} {a : Addr} {A : MH} {xs : List D} (h : A a = some (.lst xs)) (p : plDs xs = true) : fzN (n + 1) (.mut a) A = some (.lst xs, A.del a) := by
  show (match A a with | some (.lst ds) => (match fzL (fzN n) ds (A.del a) with | some (ds', A') => some (D.lst ds', A') | none => none) | _ => none) = _
  rw [h]
  show (match fzL (fzN n) xs (A.del a) with | some (ds', A') => some (D.lst ds', A') | none => none) = _
  rw [fzL_pl p]
theorem plDs_ints : ∀ ns : List Int, plDs (ns.map .int) = true
  | [] => rfl
  | _ :: ns => by rw [List.map_cons, plDs, plDs_ints ns]; rfl
theorem plDs_app {xs ys : List D} (h : plDs xs = true) (g : plDs ys = true) : plDs (xs ++ ys) = true :=
  plDs_all.mpr fun x hx => (List.mem_append.mp hx).elim (plDs_all.mp h x) (plDs_all.mp g x)
/-! rows that may change, frozen at once -/
def RowsAt (A : MH) : List Addr → List (List D) → Prop
  | [], [] => True
  | a :: as, r :: rs => A a = some (.lst r) ∧ RowsAt A as rs
  | _, _ => False
theorem RowsAt.len {A : MH} : ∀ {as : List Addr} {rs : List (List D)}, RowsAt A as rs → as.length = rs.length
  | [], [], _ => rfl
  | _ :: as, _ :: rs, h => by rw [List.length_cons, List.length_cons, RowsAt.len h.2]
  | [], _ :: _, h => h.elim
  | _ :: _, [], h => h.elim
theorem RowsAt.off {A A' : MH} : ∀ {as : List Addr} {rs : List (List D)}, RowsAt A as rs → (∀ a ∈ as, A' a = A a) → RowsAt A' as rs
  | [], [], _, _ => trivial
  | a :: as, _ :: rs, h, e => ⟨(e a (List.mem_cons_self ..)).trans h.1, RowsAt.off h.2 fun b hb => e b (List.mem_cons_of_mem _ hb)⟩
  | [], _ :: _, h, _ => h.elim
  | _ :: _, [], h, _ => h.elim
theorem RowsAt.get {A : MH} : ∀ {as : List Addr} {rs : List (List D)} {i : Nat} {a : Addr}, RowsAt A as rs → as[i]? = some a → ∃ r, rs[i]? = some r ∧ A a = some (.lst r)
  | [], [], _, _, _, e => by simp at e
  | b :: as, r :: rs, 0, a, h, e => by simp at e; subst e; exact ⟨r, rfl, h.1⟩
  | b :: as, r :: rs, i + 1, a, h, e => by
    obtain ⟨q, h1, h2⟩ := RowsAt.get (i := i) (a := a) h.2 (by simpa using e)
    exact ⟨q, by simpa using h1, h2⟩
  | [], _ :: _, _, _, h, _ => h.elim
  | _ :: _, [], _, _, h, _ => h.elim
theorem RowsAt.set {A : MH} : ∀ {as : List Addr} {rs : List (List D)} {i : Nat} {a : Addr} {r : List D}, RowsAt A as rs → as.Nodup → as[i]? = some a → RowsAt (A.set a (.lst r)) as (rs.set i r)
  | [], [], _, _, _, _, _, e => by simp at e
  | b :: as, q :: rs, 0, a, r, h, nd, e => by
    simp at e; subst e
    refine ⟨MH.set_same, h.2.off fun c hc => MH.set_ne fun z => ?_⟩
    subst z
    exact (List.nodup_cons.mp nd).1 hc
  | b :: as, q :: rs, i + 1, a, r, h, nd, e => by
    have e2 : as[i]? = some a := by simpa using e
    refine ⟨?_, RowsAt.set h.2 (List.nodup_cons.mp nd).2 e2⟩
    rw [MH.set_ne fun z => (List.nodup_cons.mp nd).1 (by rw [z]; exact List.mem_of_getElem? e2)]
    exact h.1
  | [], _ :: _, _, _, _, h, _, _ => h.elim
  | _ :: _, [], _, _, _, h, _, _ => h.elim
def delA (A : MH) : List Addr → MH
  | [] => A
  | a :: as => delA (A.del a) as
theorem delA_off {b : Addr} : ∀ {as : List Addr} {A : MH}, b ∉ as → delA A as b = A b
  | [], _, _ => rfl
  | a :: as, A, h => by
    show delA (A.del a) as b = _
    rw [delA_off fun z => h (List.mem_cons_of_mem _ z), MH.del_ne fun z => h (by rw [z]; exact List.mem_cons_self ..)]
theorem fzL_rows {n : Nat} : ∀ {as : List Addr} {A : MH} {rs : List (List D)}, RowsAt A as rs → as.Nodup → (∀ r ∈ rs, plDs r = true) → fzL (fzN (n + 1)) (as.map .mut) A = some (rs.map .lst, delA A as)
  | [], _, [], _, _, _ => rfl
  | a :: as, A, r :: rs, h, nd, p => by
    rw [List.map_cons]
    unfold fzL
    rw [fzN_lst h.1 (p r (List.mem_cons_self ..))]
    show (match fzL (fzN (n + 1)) (as.map .mut) (A.del a) with | some (r', A2) => some (D.lst r :: r', A2) | none => none) = _
    rw [fzL_rows (A := A.del a) (h.2.off fun b hb => MH.del_ne fun z => (List.nodup_cons.mp nd).1 (z ▸ hb)) (List.nodup_cons.mp nd).2 fun q hq => p q (List.mem_cons_of_mem _ hq)]
    rfl
  | [], _, _ :: _, h, _, _ => h.elim
  | _ :: _, _, [], h, _, _ => h.elim
theorem fzN_rows {n : Nat} {t : Addr} {as : List Addr} {A : MH} {rs : List (List D)} (ht : A t = some (.lst (as.map .mut))) (h : RowsAt A as rs) (nd : (t :: as).Nodup) (p : ∀ r ∈ rs, plDs r = true) : fzN (n + 2) (.mut t) A = some (.lst (rs.map .lst), delA A (t :: as)) := by
  show (match A t with | some (.lst ds) => (match fzL (fzN (n + 1)) ds (A.del t) with | some (ds', A') => some (D.lst ds', A') | none => none) | _ => none) = _
  rw [ht]
  have nd' := List.nodup_cons.mp nd
  show (match fzL (fzN (n + 1)) (as.map .mut) (A.del t) with | some (ds', A') => some (D.lst ds', A') | none => none) = _
  rw [fzL_rows (h.off fun b hb => MH.del_ne fun z => nd'.1 (by rw [← z]; exact hb)) nd'.2 p]
  rfl
theorem fz_row {A : MH} {p r : Addr} {xs : List D} (h : p ≠ r) (pl : plDs xs = true) (hB : A r = some (.lst xs)) : fzN 2 (.mut p) (A.set p (.lst [.mut r])) = some (.lst [.lst xs], ((A.set p (.lst [.mut r])).del p).del r) := by
  have := fzN_rows (n := 0) (t := p) (as := [r]) (A := A.set p (.lst [.mut r])) (rs := [xs]) MH.set_same ⟨by rw [MH.set_ne (Ne.symm h)]; exact hB, trivial⟩ (List.nodup_cons.mpr ⟨fun z => h (List.mem_singleton.mp z), List.nodup_cons.mpr ⟨List.not_mem_nil, List.nodup_nil⟩⟩) fun q hq => by
    rw [List.mem_singleton] at hq; rw [hq]; exact pl
  exact this
/-- new rows that may change -/
structure NewR (A A' : MH) (t : Addr) (as : List Addr) (rows : List (List D)) : Prop where
  nt : A t = none
  na : ∀ a ∈ as, A a = none
  nd : (t :: as).Nodup
  top : A' t = some (.lst (as.map .mut))
  rows : RowsAt A' as rows
  off : ∀ q, q ≠ t → q ∉ as → A' q = A q
theorem compL_rows {γ : Type} {t : Tgt} {te : TQ} {s : SQ} {A : MH} {P : List D → MH → Prop} (k : γ → D) (g : γ → List D) (ys : List γ) (hl : ys.length ≤ 100000)
    (h : ∀ y ∈ ys, ∀ A', (∀ q o, A q = some o → A' q = some o) → ∀ Q : KQ, (∀ a, A' a = none → Q (.mut a) (A'.set a (.lst (g y)))) → okQ (tset t (k y) s) fun s' => te s' A' Q)
    (fin : ∀ as A', as.Nodup → (∀ a ∈ as, A a = none) → RowsAt A' as (ys.map g) → (∀ q, q ∉ as → A' q = A q) → P (as.map .mut) A') : compL t qYes te s (ys.map k) [] A P := by
  have go : ∀ (zs ws : List γ) (as : List Addr) (A' : MH), ws ++ zs = ys → as.Nodup → (∀ a ∈ as, A a = none) → RowsAt A' as (ws.map g) → (∀ q, q ∉ as → A' q = A q) → compL t qYes te s (zs.map k) (as.map .mut) A' P := by
    intro zs
    induction zs with
    | nil =>
      intro ws as A' e nd na ra off
      rw [List.append_nil] at e; subst e
      unfold compL; exact fin as A' nd na ra off
    | cons z zs ih =>
      intro ws as A' e nd na ra off
      have hz : z ∈ ys := by rw [← e]; exact List.mem_append_right _ (List.mem_cons_self ..)
      have hlen := ra.len
      rw [List.length_map] at hlen
      have hl2 := congrArg List.length e
      rw [List.length_append, List.length_cons] at hl2
      have ex : ∀ q o, A q = some o → A' q = some o := fun q o hq => by
        rw [off q fun z => by rw [na q z] at hq; cases hq]; exact hq
      have h1 := h z hz A' ex (fun v A2 => (as.map D.mut).length < 100000 ∧ compL t qYes te s (zs.map k) (as.map D.mut ++ [v]) A2 P) fun a ha => ⟨by rw [List.length_map]; omega, by
        have hna : a ∉ as := fun z => by
          obtain ⟨i, hi⟩ := List.getElem?_of_mem z
          obtain ⟨r, _, hr⟩ := ra.get hi
          rw [ha] at hr; cases hr
        have e2 : as.map D.mut ++ [D.mut a] = (as ++ [a]).map D.mut := by rw [List.map_append]; rfl
        rw [e2]
        refine ih (ws ++ [z]) (as ++ [a]) _ (by rw [List.append_assoc]; exact e) (List.nodup_append.mpr ⟨nd, List.nodup_cons.mpr ⟨List.not_mem_nil, List.nodup_nil⟩, fun x hx y hy => by rw [List.mem_singleton] at hy; subst hy; exact fun z => hna (z ▸ hx)⟩) (fun b hb => ?_) ?_ fun q hq => ?_
        · rcases List.mem_append.mp hb with hb | hb
          · exact na b hb
          · rw [List.mem_singleton] at hb; subst hb; rw [← off b hna]; exact ha
        · have app : ∀ {as : List Addr} {rs : List (List D)} {B : MH} {a : Addr} {r : List D}, RowsAt B as rs → B a = some (.lst r) → RowsAt B (as ++ [a]) (rs ++ [r]) := by
            intro as
            induction as with
            | nil => intro rs B a r h hb; cases rs with | nil => exact ⟨hb, trivial⟩ | cons => exact h.elim
            | cons c as ih2 => intro rs B a r h hb; cases rs with | nil => exact h.elim | cons q rs => exact ⟨h.1, ih2 h.2 hb⟩
          rw [List.map_append]
          exact app (ra.off fun b hb => MH.set_ne fun z => hna (by rw [← z]; exact hb)) MH.set_same
        · rw [List.mem_append, List.mem_singleton] at hq
          rw [MH.set_ne fun z => hq (.inr z)]
          exact off q fun z => hq (.inl z)⟩
      rw [List.map_cons]
      unfold compL
      cases e3 : tset t (k z) s with
      | none => rw [e3] at h1; exact h1.elim
      | some s' => rw [e3] at h1; exact h1
  exact go ys [] [] A rfl List.nodup_nil (fun a h => absurd h List.not_mem_nil) trivial fun q _ => rfl
/-- new rows within a new list -/
theorem newR_of {A A' : MH} {as : List Addr} {rows : List (List D)} {P : KQ} (nd : as.Nodup) (na : ∀ a ∈ as, A a = none) (ra : RowsAt A' as rows) (off : ∀ q, q ∉ as → A' q = A q) (h : ∀ t B, NewR A B t as rows → P (.mut t) B) : newL true (as.map .mut) A' P := by
  intro t ht
  have hna : t ∉ as := fun z => by
    obtain ⟨i, hi⟩ := List.getElem?_of_mem z
    obtain ⟨r, _, hr⟩ := ra.get hi
    rw [ht] at hr; cases hr
  exact h t _ ⟨by rw [← off t hna]; exact ht, na, List.nodup_cons.mpr ⟨hna, nd⟩, MH.set_same, ra.off fun b hb => MH.set_ne fun z => hna (by rw [← z]; exact hb), fun q h1 h2 => by rw [MH.set_ne h1]; exact off q h2⟩
/-! lent -/
theorem viewN_pl : ∀ {n : Nat} {A : MH} {d : D}, flD d = true → viewN n A d = some d
  | 0, _, d, _ => by cases d <;> rfl
  | n + 1, A, d, h => by cases d <;> first | rfl | cases h
theorem viewL_all {f : D → Option D} : ∀ {xs : List D}, (∀ x ∈ xs, f x = some x) → viewL f xs = some xs
  | [], _ => rfl
  | x :: xs, h => by
    unfold viewL
    rw [h x (List.mem_cons_self ..), viewL_all fun y hy => h y (List.mem_cons_of_mem _ hy)]
theorem viewN_plain : ∀ (n : Nat) (A : MH) {d : D}, plD d = true → viewN n A d = some d
  | 0, A, d, _ => by cases d <;> rfl
  | n + 1, A, d, h => by
    cases d with
    | lst xs =>
      rw [plD, Bool.and_eq_true] at h
      show (viewL (viewN n A) xs).map D.lst = _
      rw [viewL_all fun x hx => viewN_plain n A (plDs_all.mp h.2 x hx)]; rfl
    | tup xs =>
      rw [plD, Bool.and_eq_true] at h
      show (viewL (viewN n A) xs).map D.tup = _
      rw [viewL_all fun x hx => viewN_plain n A (plDs_all.mp h.2 x hx)]; rfl
    | «mut» => cases h
    | _ => rfl
theorem pick_0 {α : Type} {x : α} : pick [0] [x] = [x] := rfl
theorem pick_10 {α : Type} {x y : α} : pick [1, 0] [x, y] = [y, x] := rfl
theorem viewL_mut {n : Nat} {A : MH} : ∀ {as : List Addr} {rs : List (List D)}, RowsAt A as rs → (∀ r ∈ rs, viewL (viewN n A) r = some r) → viewL (viewN (n + 1) A) (as.map .mut) = some (rs.map .lst)
  | [], [], _, _ => rfl
  | a :: as, r :: rs, h, p => by
    rw [List.map_cons]
    unfold viewL
    have e : viewN (n + 1) A (.mut a) = some (.lst r) := by
      show (match A a with | some (.lst ds) => (viewL (viewN n A) ds).map D.lst | _ => none) = _
      rw [h.1]
      show (viewL (viewN n A) r).map D.lst = _
      rw [p r (List.mem_cons_self ..)]; rfl
    rw [e, viewL_mut h.2 fun q hq => p q (List.mem_cons_of_mem _ hq)]
    rfl
  | [], _ :: _, h, _ => h.elim
  | _ :: _, [], h, _ => h.elim
/-! ### plain data with small ints, empty dicts alone -/
mutual
def datD : D → Bool
  | .non => true | .bl _ => true | .str _ => true
  | .int i => decide (-1000000000 < i) && decide (i < 1000000000)
  | .tup xs => datDs xs
  | .lst xs => datDs xs
  | .dic kvs => kvs.isEmpty
  | _ => false
def datDs : List D → Bool
  | [] => true
  | x :: xs => datD x && datDs xs
end
theorem datDs_all {xs : List D} : datDs xs = true ↔ ∀ x ∈ xs, datD x = true := by
  induction xs with
  | nil => exact ⟨fun _ x h => (by cases h), fun _ => rfl⟩
  | cons a r ih =>
    rw [datDs, Bool.and_eq_true, ih]
    constructor
    · rintro ⟨h1, h2⟩ x hx
      exact (List.mem_cons.mp hx).elim (fun e => e ▸ h1) (h2 x)
    · exact fun h => ⟨h a (List.mem_cons_self ..), fun x hx => h x (List.mem_cons_of_mem _ hx)⟩
mutual
/-- how many parts -/
def nod : D → Nat
  | .tup xs => nods xs + 1
  | .lst xs => nods xs + 1
  | _ => 1
def nods : List D → Nat
  | [] => 0
  | x :: xs => nod x + nods xs
end
theorem nod_pos (d : D) : 0 < nod d := by cases d <;> simp [nod]
theorem nods_len : ∀ xs : List D, xs.length ≤ nods xs
  | [] => Nat.le_refl _
  | x :: xs => by
    have := nods_len xs
    have := nod_pos x
    rw [nods, List.length_cons]; omega
theorem nods_app : ∀ xs ys : List D, nods (xs ++ ys) = nods xs + nods ys
  | [], ys => by rw [List.nil_append, nods, Nat.zero_add]
  | x :: xs, ys => by rw [List.cons_append, nods, nods, nods_app xs ys, Nat.add_assoc]
theorem nods_mem {xs : List D} {x : D} (h : x ∈ xs) : nod x ≤ nods xs := by
  induction xs with
  | nil => cases h
  | cons a r ih =>
    rw [nods]
    rcases List.mem_cons.mp h with e | e
    · rw [e]; omega
    · have := ih e; omega
theorem nods_split (xs : List D) (i : Nat) (h : i < xs.length) : nods xs = nods (xs.take i) + nod xs[i] + nods (xs.drop (i + 1)) := by
  have e : xs = xs.take i ++ xs[i] :: xs.drop (i + 1) := by rw [List.getElem_cons_drop, List.take_append_drop]
  have := congrArg nods e
  rw [nods_app, nods] at this
  omega
theorem nods_take {xs : List D} {i : Nat} {x : D} (h : xs[i]? = some x) : nods (xs.take (i + 1)) = nods (xs.take i) + nod x := by
  rw [List.take_succ, h, nods_app]; rfl
theorem nods_takele (xs : List D) (i : Nat) : nods (xs.take i) ≤ nods xs := by
  have := congrArg nods (List.take_append_drop i xs)
  rw [nods_app] at this; omega
theorem nods_perm {xs ys : List D} (h : xs.Perm ys) : nods xs = nods ys := by
  induction h with
  | nil => rfl
  | cons x _ ih => rw [nods, nods, ih]
  | swap x y l => rw [nods, nods, nods, nods]; omega
  | trans _ _ a b => exact a.trans b
mutual
theorem datD_pl : ∀ {d : D}, datD d = true → nod d ≤ 100000 → plD d = true
  | .non, _, _ => rfl
  | .bl _, _, _ => rfl
  | .int _, _, _ => rfl
  | .str _, _, _ => rfl
  | .tup xs, h, n => by
    rw [nod] at n
    rw [plD, Bool.and_eq_true]
    exact ⟨decide_eq_true (by have := nods_len xs; omega), datDs_pl h (by omega)⟩
  | .lst xs, h, n => by
    rw [nod] at n
    rw [plD, Bool.and_eq_true]
    exact ⟨decide_eq_true (by have := nods_len xs; omega), datDs_pl h (by omega)⟩
  | .dic [], _, _ => rfl
  | .dic (_ :: _), h, _ => by cases h
  | .ty _, h, _ => by cases h
  | .gdc _, h, _ => by cases h
  | .mut _, h, _ => by cases h
  | .fn _, h, _ => by cases h
  | .frl _, h, _ => by cases h
theorem datDs_pl : ∀ {xs : List D}, datDs xs = true → nods xs ≤ 100000 → plDs xs = true
  | [], _, _ => rfl
  | x :: xs, h, n => by
    rw [datDs, Bool.and_eq_true] at h
    rw [nods] at n
    rw [plDs, datD_pl h.1 (by omega), datDs_pl h.2 (by omega)]; rfl
end
theorem deps_app : ∀ xs ys : List D, deps (xs ++ ys) = max (deps xs) (deps ys)
  | [], ys => by rw [List.nil_append, deps, Nat.zero_max]
  | x :: xs, ys => by rw [List.cons_append, deps, deps, deps_app xs ys, Nat.max_assoc]
theorem datDs_app {xs ys : List D} (h : datDs xs = true) (g : datDs ys = true) : datDs (xs ++ ys) = true :=
  datDs_all.mpr fun x hx => (List.mem_append.mp hx).elim (datDs_all.mp h x) (datDs_all.mp g x)
theorem datDs_sub {xs ys : List D} (h : datDs xs = true) (g : ∀ y ∈ ys, y ∈ xs) : datDs ys = true := datDs_all.mpr fun y hy => datDs_all.mp h y (g y hy)
theorem deps_lt {xs : List D} {n : Nat} (h : ∀ x ∈ xs, dep x ≤ n) : deps xs ≤ n := by
  induction xs with
  | nil => exact Nat.zero_le _
  | cons a r ih =>
    rw [deps]
    exact Nat.max_le.mpr ⟨h a (List.mem_cons_self ..), ih fun x hx => h x (List.mem_cons_of_mem _ hx)⟩
/-! the same but for lists in the place of tuples, at each depth -/
mutual
inductive Loo : D → D → Prop
  | same (d : D) : Loo d d
  | seq {d e : D} {xs ys : List D} : seqF d = some xs → seqF e = some ys → Loos xs ys → Loo d e
inductive Loos : List D → List D → Prop
  | nil : Loos [] []
  | cons {x y : D} {xs ys : List D} : Loo x y → Loos xs ys → Loos (x :: xs) (y :: ys)
end
theorem Loos.length : ∀ {xs ys : List D}, Loos xs ys → xs.length = ys.length
  | _, _, .nil => rfl
  | _, _, .cons _ r => by rw [List.length_cons, List.length_cons, r.length]
theorem Loos.get : ∀ {xs ys : List D} {i : Nat} {x : D}, Loos xs ys → xs[i]? = some x → ∃ y, ys[i]? = some y ∧ Loo x y
  | _, _, _, _, .nil, e => by simp at e
  | _, _, 0, _, .cons r _, e => by simp at e; subst e; exact ⟨_, rfl, r⟩
  | _, _, i + 1, x, .cons _ t, e => by
    obtain ⟨v, h1, h2⟩ := Loos.get (i := i) (x := x) t (by simpa using e)
    exact ⟨v, by simpa using h1, h2⟩
theorem Loos.of : ∀ {xs ys : List D}, xs.length = ys.length → (∀ (i : Nat) (x y : D), xs[i]? = some x → ys[i]? = some y → Loo x y) → Loos xs ys
  | [], [], _, _ => .nil
  | x :: xs, y :: ys, hl, h => .cons (h 0 x y rfl rfl) (Loos.of (by simpa using hl) fun i a b h1 h2 => h (i + 1) a b (by simpa using h1) (by simpa using h2))
  | [], _ :: _, h, _ => by simp at h
  | _ :: _, [], h, _ => by simp at h
mutual
theorem Loo.symm : ∀ {d e : D}, Loo d e → Loo e d
  | _, _, .same d => .same d
  | _, _, .seq h1 h2 r => .seq h2 h1 (Loos.symm r)
theorem Loos.symm : ∀ {xs ys : List D}, Loos xs ys → Loos ys xs
  | _, _, .nil => .nil
  | _, _, .cons r t => .cons (Loo.symm r) (Loos.symm t)
end
theorem datD_seq {d : D} {xs : List D} (h : seqF d = some xs) : datD d = datDs xs ∧ nod d = nods xs + 1 ∧ dep d = deps xs + 1 := by
  cases d <;> first | (cases h; done) | (cases h; exact ⟨rfl, rfl, rfl⟩)
mutual
theorem Loo.dat : ∀ {d e : D}, Loo d e → datD d = datD e ∧ nod d = nod e ∧ dep d = dep e
  | _, _, .same d => ⟨rfl, rfl, rfl⟩
  | _, _, .seq h1 h2 r => by
    have a := datD_seq h1
    have b := datD_seq h2
    have c := Loos.dat r
    exact ⟨by rw [a.1, b.1, c.1], by rw [a.2.1, b.2.1, c.2.1], by rw [a.2.2, b.2.2, c.2.2]⟩
theorem Loos.dat : ∀ {xs ys : List D}, Loos xs ys → datDs xs = datDs ys ∧ nods xs = nods ys ∧ deps xs = deps ys
  | _, _, .nil => ⟨rfl, rfl, rfl⟩
  | _, _, .cons r t => by
    have a := Loo.dat r
    have b := Loos.dat t
    exact ⟨by rw [datDs, datDs, a.1, b.1], by rw [nods, nods, a.2.1, b.2.1], by rw [deps, deps, a.2.2, b.2.2]⟩
end
/-- a seq of loose parts is loose -/
theorem Loo.seqF {d e : D} (h : Loo d e) : ∀ {xs : List D}, seqF d = some xs → ∃ ys, Qd.seqF e = some ys ∧ Loos xs ys := by
  intro xs hx
  cases h with
  | same => exact ⟨xs, hx, Loos.of rfl fun i x y h1 h2 => by rw [h1] at h2; cases h2; exact .same _⟩
  | seq h1 h2 r => rw [h1] at hx; cases hx; exact ⟨_, h2, r⟩
theorem Loo.noseq {d e : D} (h : Loo d e) (hx : Qd.seqF d = none) : e = d := by
  cases h with
  | same => rfl
  | seq h1 _ _ => rw [h1] at hx; cases hx
end Qd


set_option Elab.async false
set_option linter.all false
set_option maxRecDepth 100000
set_option maxHeartbeats 4000000
/-! Second layer, part Y: dicts as keys and a function; their keys sorted. -/
namespace Qd
open PySem L2
def tabK (ks : List Key) (v : Key → D) : List (Key × D) := ks.map fun k => (k, v k)
theorem tabK_length {ks : List Key} {v : Key → D} : (tabK ks v).length = ks.length := List.length_map ..
theorem tabK_keys {ks : List Key} {v : Key → D} : (tabK ks v).map (·.1) = ks := by
  unfold tabK; rw [List.map_map]; exact List.map_id _
theorem getA_tabK {ks : List Key} {v : Key → D} {k : Key} (h : k ∈ ks) : getA (tabK ks v) k = some (v k) := by
  induction ks with
  | nil => cases h
  | cons a r ih =>
    show getA ((a, v a) :: tabK r v) k = _
    rw [getA_cons]
    by_cases e : a = k
    · subst e; rw [if_pos rfl]
    · rw [if_neg e]
      exact ih ((List.mem_cons.mp h).resolve_left fun z => e z.symm)
theorem hasA_tabK {ks : List Key} {v : Key → D} {k : Key} : hasA (tabK ks v) k = true ↔ k ∈ ks := by
  induction ks with
  | nil => exact ⟨fun h => (by cases h), fun h => (by cases h)⟩
  | cons a r ih =>
    show (decide (a = k) || hasA (tabK r v) k) = true ↔ _
    rw [Bool.or_eq_true, ih, decide_eq_true_eq, List.mem_cons]
    exact or_congr ⟨Eq.symm, Eq.symm⟩ Iff.rfl
theorem mergeA_app {κ : Type} [DecidableEq κ] {α : Type} : ∀ (ps acc : List (κ × α)), (ps.map (·.1)).Nodup → (∀ p ∈ ps, hasA acc p.1 = false) → mergeA acc ps = acc ++ ps
  | [], acc, _, _ => by rw [List.append_nil]; rfl
  | p :: ps, acc, nd, h => by
    rw [List.map_cons, List.nodup_cons] at nd
    have e : putA acc p.1 p.2 = acc ++ [p] := by
      unfold putA
      rw [h p (List.mem_cons_self ..)]; rfl
    show mergeA (putA acc p.1 p.2) ps = _
    rw [e, mergeA_app ps (acc ++ [p]) nd.2 fun q hq => ?_, List.append_assoc]; rfl
    unfold hasA
    rw [List.any_append]
    have h1 : hasA acc q.1 = false := h q (List.mem_cons_of_mem _ hq)
    unfold hasA at h1
    rw [h1, Bool.false_or]
    simp only [List.any_cons, List.any_nil, Bool.or_false]
    exact decide_eq_false fun z => nd.1 (z ▸ List.mem_map.mpr ⟨q, hq, rfl⟩)
theorem mergeA_nodup {κ : Type} [DecidableEq κ] {α : Type} {ps : List (κ × α)} (nd : (ps.map (·.1)).Nodup) : mergeA [] ps = ps := by
  rw [mergeA_app ps [] nd fun _ _ => rfl, List.nil_append]
theorem mergeA_tabK {ks : List Key} {v : Key → D} (nd : ks.Nodup) : mergeA [] (tabK ks v) = tabK ks v := mergeA_nodup (by rw [tabK_keys]; exact nd)
theorem keyInts_tab {v : Key → D} : ∀ is : List Int, keyInts (tabK (is.map .inl) v) = some is
  | [] => rfl
  | i :: is => by
    show (keyInts (tabK (is.map .inl) v)).map (i :: ·) = _
    rw [keyInts_tab is]; rfl
theorem keyStrs_tab {v : Key → D} : ∀ is : List Str, keyStrs (tabK (is.map .inr) v) = some is
  | [] => rfl
  | i :: is => by
    show (keyStrs (tabK (is.map .inr) v)).map (i :: ·) = _
    rw [keyStrs_tab is]; rfl
/-- keys of one sort -/
def OneSort (ks : List Key) : Prop := (∃ is : List Int, ks = is.map .inl) ∨ ∃ ss : List Str, ks = ss.map .inr
def srtK (ks : List Key) : List Key := (sortKeys (tabK ks fun _ => .non)).getD []
theorem sort_ints {v : Key → D} (is : List Int) : sortKeys (tabK (is.map .inl) v) = some ((srtI is).map .inl) := by
  unfold sortKeys; rw [keyInts_tab]
theorem sort_strs {v : Key → D} {ss : List Str} (h : ss ≠ []) : sortKeys (tabK (ss.map .inr) v) = some ((srtS ss).map .inr) := by
  unfold sortKeys
  cases ss with
  | nil => exact absurd rfl h
  | cons s r =>
    have e : keyInts (tabK ((s :: r).map .inr) v) = none := rfl
    rw [e, keyStrs_tab]; rfl
theorem sort_tab {v : Key → D} {ks : List Key} (h : OneSort ks) (h0 : ks ≠ []) : sortKeys (tabK ks v) = some (srtK ks) := by
  rcases h with ⟨is, rfl⟩ | ⟨ss, rfl⟩
  · unfold srtK; rw [sort_ints, sort_ints]; rfl
  · have : ss ≠ [] := fun z => h0 (by rw [z]; rfl)
    unfold srtK; rw [sort_strs this, sort_strs this]; rfl
theorem srtI_perm (l : List Int) : (srtI l).Perm l := List.mergeSort_perm _ _
theorem srtS_perm (l : List Str) : (srtS l).Perm l := List.mergeSort_perm _ _
theorem srtI_sorted (l : List Int) : (srtI l).Pairwise (· ≤ ·) := by
  have := List.pairwise_mergeSort (le := fun a b : Int => decide (a ≤ b)) (fun a b c x y => by simp at *; omega) (fun a b => by simp; omega) l
  exact this.imp fun h => by simpa using h
theorem srtS_sorted (l : List Str) : (srtS l).Pairwise (fun a b => leS a b = true) := List.pairwise_mergeSort leS_trans leS_total l
theorem srtI_congr {l l' : List Int} (h : l.Perm l') : srtI l = srtI l' := srtI_uniq ((srtI_perm l).trans h) (srtI_sorted l)
theorem srtS_congr {l l' : List Str} (h : l.Perm l') : srtS l = srtS l' :=
  List.Perm.eq_of_pairwise (le := fun a b => leS a b = true) (fun a b _ _ x y => leS_anti x y) (srtS_sorted l) (srtS_sorted l') ((srtS_perm l).trans (h.trans (srtS_perm l').symm))
theorem srtK_perm {ks : List Key} (h : OneSort ks) : (srtK ks).Perm ks := by
  by_cases h0 : ks = []
  · subst h0
    show ((sortKeys (tabK (([] : List Int).map .inl) fun _ => .non)).getD []).Perm (([] : List Int).map .inl)
    rw [sort_ints]; exact (srtI_perm []).map _
  rcases h with ⟨is, rfl⟩ | ⟨ss, rfl⟩
  · unfold srtK; rw [sort_ints]; exact (srtI_perm is).map _
  · unfold srtK; rw [sort_strs (fun z => h0 (by rw [z]; rfl))]; exact (srtS_perm ss).map _
theorem perm_map_inl {is : List Int} {ks : List Key} (h : ks.Perm (is.map .inl)) : ∃ js : List Int, ks = js.map .inl ∧ js.Perm is := by
  have hk : ∀ k ∈ ks, ∃ i : Int, k = .inl i := fun k hk => by
    obtain ⟨i, _, e⟩ := List.mem_map.mp (h.mem_iff.mp hk)
    exact ⟨i, e.symm⟩
  let f : Key → Int := fun k => match k with | .inl i => i | .inr _ => 0
  refine ⟨ks.map f, ?_, ?_⟩
  · rw [List.map_map]
    have : ∀ l : List Key, (∀ k ∈ l, ∃ i : Int, k = .inl i) → l = l.map (Sum.inl ∘ f) := fun l hl => by
      induction l with
      | nil => rfl
      | cons a r ih =>
        obtain ⟨i, rfl⟩ := hl a (List.mem_cons_self ..)
        rw [List.map_cons, ← ih fun k hk => hl k (List.mem_cons_of_mem _ hk)]; rfl
    exact this ks hk
  · have := h.map f
    rw [List.map_map] at this
    rwa [show is.map (f ∘ Sum.inl) = is from List.map_id _] at this
theorem perm_map_inr {is : List Str} {ks : List Key} (h : ks.Perm (is.map .inr)) : ∃ js : List Str, ks = js.map .inr ∧ js.Perm is := by
  have hk : ∀ k ∈ ks, ∃ i : Str, k = .inr i := fun k hk => by
    obtain ⟨i, _, e⟩ := List.mem_map.mp (h.mem_iff.mp hk)
    exact ⟨i, e.symm⟩
  let f : Key → Str := fun k => match k with | .inr i => i | .inl _ => ⟨#[]⟩
  refine ⟨ks.map f, ?_, ?_⟩
  · rw [List.map_map]
    have : ∀ l : List Key, (∀ k ∈ l, ∃ i : Str, k = .inr i) → l = l.map (Sum.inr ∘ f) := fun l hl => by
      induction l with
      | nil => rfl
      | cons a r ih =>
        obtain ⟨i, rfl⟩ := hl a (List.mem_cons_self ..)
        rw [List.map_cons, ← ih fun k hk => hl k (List.mem_cons_of_mem _ hk)]; rfl
    exact this ks hk
  · have := h.map f
    rw [List.map_map] at this
    rwa [show is.map (f ∘ Sum.inr) = is from List.map_id _] at this
theorem OneSort.perm {ks ls : List Key} (h : OneSort ks) (p : ls.Perm ks) : OneSort ls := by
  rcases h with ⟨is, rfl⟩ | ⟨ss, rfl⟩
  · obtain ⟨js, rfl, _⟩ := perm_map_inl p; exact .inl ⟨js, rfl⟩
  · obtain ⟨js, rfl, _⟩ := perm_map_inr p; exact .inr ⟨js, rfl⟩
theorem srtK_congr {ks ls : List Key} (h : OneSort ks) (p : ls.Perm ks) : srtK ls = srtK ks := by
  by_cases h0 : ks = []
  · subst h0; rw [List.perm_nil.mp p]
  rcases h with ⟨is, rfl⟩ | ⟨ss, rfl⟩
  · obtain ⟨js, rfl, q⟩ := perm_map_inl p
    unfold srtK; rw [sort_ints, sort_ints, srtI_congr q]
  · obtain ⟨js, rfl, q⟩ := perm_map_inr p
    have n1 : ss ≠ [] := fun z => h0 (by rw [z]; rfl)
    have n2 : js ≠ [] := fun z => n1 (by subst z; exact List.nil_perm.mp q)
    unfold srtK; rw [sort_strs n1, sort_strs n2, srtS_congr q]
theorem ints_of {out : List D} {R : Nat → Int → Prop} (h : ∀ i y, out[i]? = some y → ∃ z : Int, y = .int z ∧ R i z) : ∃ is : List Int, out = is.map .int ∧ ∀ (i : Nat) z, is[i]? = some z → R i z := by
  let f : D → Int := fun d => match d with | .int i => i | _ => 0
  refine ⟨out.map f, List.ext_getElem? fun i => ?_, fun i z hz => ?_⟩
  · rw [List.getElem?_map, List.getElem?_map]
    cases e : out[i]? with
    | none => rfl
    | some y =>
      obtain ⟨z, rfl, _⟩ := h i y e
      rfl
  · rw [List.getElem?_map] at hz
    cases e : out[i]? with
    | none => rw [e] at hz; cases hz
    | some y =>
      obtain ⟨w, rfl, r⟩ := h i y e
      rw [e] at hz; cases hz
      exact r
theorem nodup_map {α β : Type} {f : α → β} (hf : ∀ a b, f a = f b → a = b) : ∀ {l : List α}, l.Nodup → (l.map f).Nodup
  | [], _ => List.nodup_nil
  | a :: l, h => by
    rw [List.nodup_cons] at h
    rw [List.map_cons, List.nodup_cons]
    refine ⟨fun z => ?_, nodup_map hf h.2⟩
    obtain ⟨b, hb, e⟩ := List.mem_map.mp z
    exact h.1 (hf _ _ e ▸ hb)
theorem nodup_get {α : Type} {l : List α} (h : ∀ (i j : Nat) x, i < j → l[i]? = some x → l[j]? = some x → False) : l.Nodup := by
  induction l with
  | nil => exact List.nodup_nil
  | cons a l ih =>
    rw [List.nodup_cons]
    refine ⟨fun z => ?_, ih fun i j x hij h1 h2 => h (i + 1) (j + 1) x (by omega) (by simpa using h1) (by simpa using h2)⟩
    obtain ⟨i, hi⟩ := List.getElem?_of_mem z
    exact h 0 (i + 1) a (by omega) rfl (by simpa using hi)
theorem pairsD_tab {v : Key → D} : ∀ ks : List Key, pairsD (ks.map fun k => .tup [kD k, v k]) = some (tabK ks v)
  | [] => rfl
  | k :: ks => by
    rw [List.map_cons]
    unfold pairsD
    rw [pairsD_tab ks]
    show (match (keyD (kD k)).map (fun k' => (k', v k)), some (tabK ks v) with | some p, some ps => some (p :: ps) | _, _ => none) = _
    rw [keyD_k]
    rfl
theorem pairsD_zip : ∀ {ks : List Key} {ns : List D}, pairsD (pairL (ks.map kD) ns) = some (ks.zip ns)
  | [], _ => rfl
  | _ :: _, [] => rfl
  | k :: ks, n :: ns => by
    show (match pairD (.tup [kD k, n]), pairsD (pairL (ks.map kD) ns) with | some p, some ps => some (p :: ps) | _, _ => none) = _
    rw [pairsD_zip]
    show (match (keyD (kD k)).map (fun k' => (k', n)), some (ks.zip ns) with | some p, some ps => some (p :: ps) | _, _ => none) = _
    rw [keyD_k]
    rfl
theorem srtS_id {l : List Str} (h : l.Pairwise (fun a b => leS a b = true)) : srtS l = l :=
  List.Perm.eq_of_pairwise (le := fun a b => leS a b = true) (fun a b _ _ x y => leS_anti x y) (srtS_sorted l) h (srtS_perm l)
theorem srtI_id {l : List Int} (h : l.Pairwise (· ≤ ·)) : srtI l = l := (srtI_uniq (.refl l) h).symm
theorem srtK_strs {ss : List Str} (h : ss ≠ []) : srtK (ss.map .inr) = (srtS ss).map .inr := by unfold srtK; rw [sort_strs h]; rfl
theorem srtK_ints {is : List Int} : srtK (is.map .inl) = (srtI is).map .inl := by unfold srtK; rw [sort_ints]; rfl
theorem zip_tab {ks : List Key} {ns : List D} (nd : ks.Nodup) (hl : ks.length = ns.length) : ∃ v : Key → D, ks.zip ns = tabK ks v ∧ ∀ k ∈ ks, v k ∈ ns := by
  refine ⟨fun k => (getA (ks.zip ns) k).getD .non, ?_, ?_⟩
  · have key : ∀ (ks : List Key) (ns : List D), ks.Nodup → ks.length = ns.length → ∀ v : Key → D, (∀ k ∈ ks, getA (ks.zip ns) k = some (v k)) → ks.zip ns = tabK ks v := by
      intro ks
      induction ks with
      | nil => intros; rfl
      | cons a r ih =>
        intro ns nd hl v h
        cases ns with
        | nil => cases hl
        | cons n ns =>
          rw [List.nodup_cons] at nd
          have h1 := h a (List.mem_cons_self ..)
          rw [List.zip_cons_cons, getA_cons, if_pos rfl] at h1
          show (a, n) :: r.zip ns = (a, v a) :: tabK r v
          rw [show n = v a from Option.some.inj h1, ih ns nd.2 (by simpa using hl) v fun k hk => by
            have h2 := h k (List.mem_cons_of_mem _ hk)
            rwa [List.zip_cons_cons, getA_cons, if_neg (fun z => nd.1 (by rw [show a = k from z]; exact hk))] at h2]
    refine key ks ns nd hl _ fun k hk => ?_
    have : ∀ (ks : List Key) (ns : List D), ks.length = ns.length → k ∈ ks → (getA (ks.zip ns) k).isSome = true := by
      intro ks
      induction ks with
      | nil => intro _ _ h; cases h
      | cons a r ih =>
        intro ns hl h
        cases ns with
        | nil => cases hl
        | cons n ns =>
          rw [List.zip_cons_cons, getA_cons]
          by_cases e : a = k
          · rw [if_pos e]; rfl
          · rw [if_neg e]; exact ih ns (by simpa using hl) ((List.mem_cons.mp h).resolve_left fun z => e z.symm)
    obtain ⟨d, hd⟩ := Option.isSome_iff_exists.mp (this ks ns hl hk)
    rw [hd]; rfl
  · intro k hk
    have : ∀ (ks : List Key) (ns : List D), ks.length = ns.length → k ∈ ks → ((getA (ks.zip ns) k).getD .non) ∈ ns := by
      intro ks
      induction ks with
      | nil => intro _ _ h; cases h
      | cons a r ih =>
        intro ns hl h
        cases ns with
        | nil => cases hl
        | cons n ns =>
          rw [List.zip_cons_cons, getA_cons]
          by_cases e : a = k
          · rw [if_pos e]; exact List.mem_cons_self ..
          · rw [if_neg e]; exact List.mem_cons_of_mem _ (ih ns (by simpa using hl) ((List.mem_cons.mp h).resolve_left fun z => e z.symm))
    exact this ks ns hl hk
end Qd


set_option Elab.async false
set_option linter.all false
set_option maxRecDepth 100000
set_option maxHeartbeats 4000000
/-! Second layer, part Z: the law's own def (its tables known), facts of the text by names, the end. -/
namespace Qd
open PySem L2
/-- a promise where the tables are told -/
def liftSpT (K : PySem.W.Frag) (tb : List (Addr × Str)) (r : RNQ) : Sp := fun vs H Q E => ∃ F A ds, Reps K F vs ds ∧ RS0 K tb F A H ∧ ∃ P : KQ, r ds A P ∧ ∀ d A' v H' F', P d A' → Go0 K tb F A H F' A' H' → Rep K F' v d → Q v H'
section
variable {P : Program} {w : World} {K : PySem.W.Frag} {mg : Str → Option Value} {base : Heap}
theorem def_okT {x qual : Str} {st : Stmt} {f : Addr} {oc : Value} {od an : Option Addr} {osl : Array (Option Value)} {kV doc pm cdv ct : Value} {N ps : List Str} {k : Nat} {r : RNQ} {tb : List (Addr × Str)}
    (lk : K.lookup f = some ⟨oc, od, .func (PySem.W.fnOf x qual (defArgs st) (defBody st) (defScope st) .none kV doc pm an cdv ct), osl⟩) (hcd : PySem.W.codeIn K cdv qual = true) (S : FnScope N ps (defScope st)) (len : ∀ ds A P, r ds A P → ds.length = ps.length)
    (hbody : ∀ (A : Around) (outer : List Env) (s : Shared) (H : Hp) (E : XK), Room k (A.deeper (PyProof.Rows.envOfC qual (defScope st) s.heap.objs.size f cdv)) →
      ∃ t, PSsQ (cxOf CX0 P w K mg base N qual (defScope st) f cdv A outer s H E).nox { tb := tb } (defBody st) t ∧ ∀ ds A P, r ds A P → t { nx := fun _ A' => P .non A', rt := P } (startQ N ds) A) :
    FnOk P w K mg base CX0 (k + 1) f (PySem.W.fnOf x qual (defArgs st) (defBody st) (defScope st) .none kV doc pm an cdv ct) ps (liftSpT K tb r) := by
  refine fn_of lk hcd S (fun vs H Q E ⟨F, A, ds, h1, h2, P, h3, _⟩ => by rw [h1.length]; exact len _ _ _ h3) fun A outer s H vs Q E hr h => ?_
  obtain ⟨F0, A0, ds, h1, h2, PP, h3, h4⟩ := h
  obtain ⟨t, ht, hq⟩ := hbody A outer s H E hr
  have hR : RS K { tb := tb } F0 A0 H := ⟨h2, trivial, fun C fs d A' H' F' z => z.elim⟩
  exact ⟨_, ht.ps.nox, F0, A0, startQ N ds, start_rep h1, hR, _, hq ds A0 PP h3, ⟨fun s' A' σ' H' F' p g _ => h4 _ _ _ _ _ p g.g0 .non, fun d A' v H' F' p g rr => h4 _ _ _ _ _ p g.g0 rr, fun _ _ _ _ _ z => z.elim, fun _ _ _ _ _ z => z.elim⟩⟩
/-- a lambda's body may raise what its caller takes -/
theorem pass_lam {X : Cx} {P : Program} {w : World} {A : Around} {outer : List Env} {s : Shared} {H : Hp} {E : XK} {scope : Scope} {f c' : Addr} (hp : P = X.prog := by rfl) (hw : w = X.w := by rfl) : Passes (L2.CX P w) (LamX.lamCx X A outer s H E scope f c') E := by
  subst hp hw
  exact passes_call (takes_of (E₁ := fun e' s'' => L2.CX X.prog X.w outer H s E e' s'') rfl rfl rfl rfl) fun _ _ _ _ h => h
theorem rep_ints {F : Hp} (ns : List Int) : Reps K F (ns.map V.int) (ns.map D.int) := by
  induction ns with
  | nil => exact .nil
  | cons n ns ih => exact .cons (.int n) ih
/-- what the law's call starts from -/
theorem start_law {H : Hp} {a : Addr} {ns : List Int} {tb : List (Addr × Str)} (hT : ∀ p ∈ tb, H p.1 = some (.tbl #[])) (hS : SqL K H a (ns.map V.int)) :
    ∃ F, RS0 K tb F (fun _ => none) H ∧ Rep K F (.ref a) (.frl (ns.map .int)) := by
  let F : Hp := fun b => match H b with
    | some (.tbl _) => none
    | o => o
  have hF : ∀ b u, F b = some u → H b = some u ∧ Plain u := fun b u e => by
    have e' : (match H b with | some (.tbl _) => none | o => o) = some u := e
    cases h : H b with
    | none => rw [h] at e'; cases e'
    | some o =>
      rw [h] at e'
      cases o <;> first | (cases e'; exact ⟨rfl, trivial⟩) | cases e'
  have hG : ∀ b u, H b = some u → Plain u → F b = some u := fun b u e p => by
    show (match H b with | some (.tbl _) => none | o => o) = some u
    rw [e]
    cases u <;> first | rfl | exact p.elim
  refine ⟨F, ⟨fun b u e => (hF b u e).1, fun b o e => (by cases e), fun p hp => ⟨#[], hT p hp, True.intro, fun pos cv hc => (by cases hc)⟩, fun b u e => (hF b u e).2⟩, .frl ?_ (rep_ints ns)⟩
  rcases hS with (h | ⟨o, h⟩) | h
  · exact .inl (.inl (hG _ _ h trivial))
  · exact .inl (.inr ⟨o, hG _ _ h trivial⟩)
  · exact .inr h
end
/-! ### facts by names -/
/-- an own error class over ValueError, its __init__ with one field -/
def oexB (K : PySem.W.Frag) (C : Addr) : Bool := (match K.lookup C with
  | some ⟨.type t, _, .cls cd, sl⟩ => decide (t = "type") && (match cd.mro, sl.toList with
    | .ref C' :: bm, [_, _, _, _, some (.builtin n), _] => decide (C' = C) && (decide (n = "ValueError.__new__") && (!cd.hasDel && (cd.hasDict && PySem.HandSPX.refsVE bm)))
    | _, _ => false)
  | _ => false) && (decide (PySem.W.findIn K (.ref C) "__setattr__" = some (some (.builtin "object.__setattr__"))) && (decide (PySem.W.subIn K (.ref C) (.type "BaseException") = some true) && (decide (PySem.W.typeIn K (.ref C) = some (.type "type")) && PySem.W.keepIn K (.ref C))))
theorem oexB_ok {K : PySem.W.Frag} {C : Addr} (h : oexB K C = true) : OexC K C := by
  unfold oexB at h
  obtain ⟨h1, h⟩ := Bool.and_eq_true_iff.mp h
  obtain ⟨h2, h⟩ := Bool.and_eq_true_iff.mp h
  obtain ⟨h3, h⟩ := Bool.and_eq_true_iff.mp h
  obtain ⟨h4, h5⟩ := Bool.and_eq_true_iff.mp h
  refine ⟨?_, of_decide_eq_true h2, of_decide_eq_true h3, of_decide_eq_true h4, h5⟩
  cases q : K.lookup C with
  | none => rw [q] at h1; cases h1
  | some o =>
    obtain ⟨oc, od, dt, osl⟩ := o
    rw [q] at h1
    cases oc with
    | type t =>
      cases dt with
      | cls cd =>
        obtain ⟨ht, h1⟩ := Bool.and_eq_true_iff.mp h1
        obtain ⟨n1, n2, n3, n4, n5, n6, n7, n8, n9, n10, n11⟩ := cd
        obtain ⟨sl⟩ := osl
        simp only at h1
        split at h1
        · rename_i C' bm k0 k1 k2 k3 n k5
          obtain ⟨g1, h1⟩ := Bool.and_eq_true_iff.mp h1
          obtain ⟨g2, h1⟩ := Bool.and_eq_true_iff.mp h1
          obtain ⟨g3, h1⟩ := Bool.and_eq_true_iff.mp h1
          obtain ⟨g4, g5⟩ := Bool.and_eq_true_iff.mp h1
          have g3' : n11 = false := by cases n11 <;> first | rfl | cases g3
          have g4' : n6 = true := g4
          subst g3' g4'
          have ht' := of_decide_eq_true ht
          have g1' := of_decide_eq_true g1
          have g2' := of_decide_eq_true g2
          subst ht' g1' g2'
          exact ⟨_, _, _, _, _, _, _, _, _, _, _, _, _, _, _, rfl, g5⟩
        · cases h1
      | _ => cases h1
    | _ => cases dt <;> cases h1
/-- .. all that is asked of such a class -/
def errB (K : PySem.W.Frag) (x f : Str) : Bool := oexB K (He.ga K x) && (xfB K (He.ga K x) && (decide (PySem.W.nsIn K mainGlobals x = some (some (.ref (He.ga K x)))) && (decide (PySem.W.findIn K (.ref (He.ga K x)) f = some none) && (decide (PySem.W.findIn K (.ref (He.ga K x)) "__init__" = some (some (.ref (He.ma K (He.ga K x) "__init__")))) &&
  (decide (PySem.W.typeIn K (.ref (He.ma K (He.ga K x) "__init__")) = some (.type "function")) && decide (PySem.W.exmOne K (.ref (He.ga K x)) (.ref (He.ga K x)) = some true))))))
structure ErrF (K : PySem.W.Frag) (x f : Str) : Prop where
  oex : OexC K (He.ga K x)
  xf : XfC K (He.ga K x)
  gm : PySem.W.nsIn K mainGlobals x = some (some (.ref (He.ga K x)))
  no : PySem.W.findIn K (.ref (He.ga K x)) f = some none
  ini : PySem.W.findIn K (.ref (He.ga K x)) "__init__" = some (some (.ref (He.ma K (He.ga K x) "__init__")))
  tyf : PySem.W.typeIn K (.ref (He.ma K (He.ga K x) "__init__")) = some (.type "function")
  exm : PySem.W.exmOne K (.ref (He.ga K x)) (.ref (He.ga K x)) = some true
theorem errB_ok {K : PySem.W.Frag} {x f : Str} (h : errB K x f = true) : ErrF K x f := by
  obtain ⟨h1, h⟩ := Bool.and_eq_true_iff.mp h
  obtain ⟨h2, h⟩ := Bool.and_eq_true_iff.mp h
  obtain ⟨h3, h⟩ := Bool.and_eq_true_iff.mp h
  obtain ⟨h4, h⟩ := Bool.and_eq_true_iff.mp h
  obtain ⟨h5, h⟩ := Bool.and_eq_true_iff.mp h
  obtain ⟨h6, h7⟩ := Bool.and_eq_true_iff.mp h
  exact ⟨oexB_ok h1, xfB_ok h2, of_decide_eq_true h3, of_decide_eq_true h4, of_decide_eq_true h5, of_decide_eq_true h6, of_decide_eq_true h7⟩
theorem fun_of {K : PySem.W.Frag} {x qual : Str} {st : Stmt} {f : Addr} {fd : FuncData} (F : FunD K x qual (defArgs st) (defBody st) (defScope st) [] [] f fd) : Fun K x qual st f fd := by
  obtain ⟨oc, od, dV, kV, doc, pm, an, cdv, ct, osl, e, lk, hc, hd, _⟩ := F.ex
  have : dV = .none := by
    rcases hd with ⟨_, h⟩ | ⟨h, _⟩
    · exact h
    · exact absurd rfl h
  subst this
  exact ⟨⟨oc, od, kV, doc, pm, an, cdv, ct, osl, e, lk, hc⟩, F.kp⟩
/-- a class's first method -/
def clsDef : Stmt → Stmt
  | .ClassDef _ _ _ body _ _ _ _ _ _ _ => body.getD 0 (.Pass ⟨0, 0, 0, 0⟩)
  | _ => .Pass ⟨0, 0, 0, 0⟩
section
variable {P : Program} {w : World} {K : PySem.W.Frag} {mg : Str → Option Value} {base : Heap}
theorem err_of {h : Heap} (X : K.In h) (G : h.Ns mainGlobals mg) {x f qual : Str} {st : Stmt} {p1 p2 p3 p4 : Pos} (e : ErrF K x f) {fI : Addr} {fd : FuncData} (hfI : fI = He.ma K (He.ga K x) "__init__") (F : Fun K "__init__" qual st fI fd) (S : FnScope ["self", f] ["self", f] (defScope st)) (hb : defBody st = [.Assign [.Attribute (.Name "self" p1) f p2] (.Name f p3) p4])
    (hbd : ∀ (kV doc pm : Value) (an : Option Addr) (cdv ct : Value) (us : List Value), us.length = 2 → bindArgs (PySem.W.fnOf "__init__" qual (defArgs st) (defBody st) (defScope st) .none kV doc pm an cdv ct) ⟨us, []⟩ = pure (([("self" : Str), f]).zip us))
    (hv : Vis (defScope st) "self" := by first | exact Or.inl rfl | exact Or.inr (Or.inl rfl)) (hv2 : Vis (defScope st) f := by first | exact Or.inl rfl | exact Or.inr (Or.inl rfl)) (hd : (f == ("__debug__" : Str)) = false := by decide) (hcd : (f == ("__classdict__" : Str)) = false := by decide)
    (hs : ∀ env : Env, swapsWith (.Name f p3) (some (.Attribute (.Name "self" p1) f p2)) p4.line env = pure false := by intro env; rfl) : ErrC P w K mg base 1 x (He.ga K x) f := by
  subst hfI
  exact ⟨e.oex, PySem.W.mg_of X G e.gm, _, fd, e.ini, e.tyf, init_ok F S hb e.oex e.no hv hv2 hd hcd hs, F.binds hbd⟩
end
end Qd


set_option Elab.async false
set_option linter.all false
set_option maxRecDepth 100000
set_option maxHeartbeats 4000000
/-! The least shares, in plain numbers. -/
namespace K68
open Qd
def seg (ns : List Int) (f l : Nat) : Int := ((ns.drop f).take (l + 1 - f)).sum
def cstF (ns : List Int) : Nat → Nat → Nat → Int
  | 0, _, _ => 0
  | d + 1, f, l => if f < l then minI ((List.range (l - f)).map fun j => seg ns f l + cstF ns d f (f + j) + cstF ns d (f + j + 1) l) else 0
def cst (ns : List Int) (f l : Nat) : Int := cstF ns (l - f) f l
theorem cstF_two (ns : List Int) : ∀ (d e f l : Nat), l - f ≤ d → l - f ≤ e → cstF ns d f l = cstF ns e f l
  | 0, 0, _, _, _, _ => rfl
  | 0, e + 1, f, l, h, _ => by
    show 0 = if f < l then _ else 0
    rw [if_neg (by omega)]
  | d + 1, 0, f, l, _, h => by
    show (if f < l then _ else 0) = 0
    rw [if_neg (by omega)]
  | d + 1, e + 1, f, l, h1, h2 => by
    unfold cstF
    by_cases q : f < l
    · rw [if_pos q, if_pos q]
      congr 1
      refine List.map_congr_left fun j hj => ?_
      have := List.mem_range.mp hj
      rw [cstF_two ns d e f (f + j) (by omega) (by omega), cstF_two ns d e (f + j + 1) l (by omega) (by omega)]
    · rw [if_neg q, if_neg q]
theorem cst_self (ns : List Int) {f l : Nat} (h : l ≤ f) : cst ns f l = 0 := by
  unfold cst
  rw [Nat.sub_eq_zero_of_le h]
  rfl
/-- what the parting behind f + j costs -/
def part (ns : List Int) (f l j : Nat) : Int := seg ns f l + cst ns f (f + j) + cst ns (f + j + 1) l
theorem cst_eq (ns : List Int) {f l : Nat} (h : f < l) : cst ns f l = minI ((List.range (l - f)).map (part ns f l)) := by
  obtain ⟨d, hd⟩ : ∃ d, l - f = d + 1 := ⟨l - f - 1, by omega⟩
  unfold cst
  rw [hd]
  show (if f < l then minI ((List.range (l - f)).map fun j => seg ns f l + cstF ns d f (f + j) + cstF ns d (f + j + 1) l) else 0) = _
  rw [if_pos h, hd]
  congr 1
  refine List.map_congr_left fun j hj => ?_
  have := List.mem_range.mp hj
  show seg ns f l + cstF ns d f (f + j) + cstF ns d (f + j + 1) l = seg ns f l + cstF ns (f + j - f) f (f + j) + cstF ns (l - (f + j + 1)) (f + j + 1) l
  rw [cstF_two ns d (f + j - f) f (f + j) (by omega) (by omega), cstF_two ns d (l - (f + j + 1)) (f + j + 1) l (by omega) (by omega)]
/-- the least of the first partings -/
def upto (ns : List Int) (f l j : Nat) : Int := minI ((List.range j).map (part ns f l))
theorem upto_one (ns : List Int) (f l : Nat) : upto ns f l 1 = part ns f l 0 := rfl
theorem upto_succ (ns : List Int) (f l : Nat) {j : Nat} (h : 0 < j) : upto ns f l (j + 1) = min (upto ns f l j) (part ns f l j) := by
  unfold upto
  rw [List.range_succ, List.map_append, List.map_cons, List.map_nil]
  exact minI_snoc (by rw [Ne, List.map_eq_nil_iff, List.range_eq_nil]; omega)
theorem cst_upto (ns : List Int) {f l : Nat} (h : f < l) : cst ns f l = upto ns f l (l - f) := cst_eq ns h
end K68


set_option Elab.async false
set_option linter.all false
set_option maxRecDepth 100000
set_option maxHeartbeats 4000000
namespace K68
open PySem L2 Qd
local macro_rules | `(tactic| walk_at "rd") => `(tactic| simp only [qVar_z, qVar_s, qC, qSeq, qNext, qRet, qRetN, qIfS, qTest, qIs, qOp, qUn, qAnd, qOr, qNot, qAndV, qOrV, qNotV, qCB, qCons, qNil, okQ_some, okQ_none, qIf, qChain, qI, qIC, r1_rd, r2_rd, Qd.rLen, qLc, qIt, rAllQ, rAnyQ, rSumQ, rMinQ, rMaxQ, rAbsQ, rIntQ, newL_f, newL_t, Bool.false_eq_true, if_false, qInS, qEq, qNe, qIsN, qNotN, qDrop, if_true, qDcB, qFill, kkB, qDGet, kkK, qDcK, qFzD, qAsg, tset_nm, tset_tp, tsets_nil, tsets_nm, tsets_tp, wipe_nil, wipe_cons, List.set_cons_zero, List.set_cons_succ, qRaise, qFor, qRng1, qRng2, qTup, qLst, qPar, eqD_int, eqD_str, eqD_bl, itD_lst, itD_tup, itD_dic, lenD_lst, lenD_tup, lenD_dic, dicD_dic, lstD_lst, seqD_lst, seqD_tup, qSl, qoNone, qoSome, qRevL, qLrg1, qLrg2, qCX, qKw, qKwX, List.length_cons, List.length_nil, List.map_cons, List.map_nil, qAsgG, gTupQ, gConsQ, gSubT, gNilQ, qTGet, qDcT, kkT, qNewT, qNewK, List.length_map, Int.toNat_natCast, ditD_mut, qIx_tup, qIx_lst, keysT_2, Bool.or_true, Bool.true_or, Int.zero_add, isN_tup, isN_lst, isN_int, isN_dic, isN_non, at_zero, qMeth, qAddL, qMulL, rTupQ, qCBw, qLX, qLKw, qMet, pick_0, pick_10, qFz, qFzN, qDispF, qNewF, qDictF, qpCons, qpNil, qDispB, qDispT, keyPs, obD, qEqV, gSubQ, qNegI, at4_0, at4_1, at4_2, at4_3, ix4_1, ix4_2, ix4_3])
def top (i : Nat) : Stmt := PySem.Challenge.pw_denserows_k68_any_shares_judged.main.body.getD i (.Pass ⟨0, 0, 0, 0⟩)
abbrev s_is_list : Stmt := top 1
theorem sc_is_list : FnScope ["thing"] ["thing"] (defScope s_is_list) := ⟨rfl, rfl, rfl, by decide +kernel, rfl, by decide +kernel, by decide +kernel⟩
abbrev s_is_whole : Stmt := top 2
theorem sc_is_whole : FnScope ["thing"] ["thing"] (defScope s_is_whole) := ⟨rfl, rfl, rfl, by decide +kernel, rfl, by decide +kernel, by decide +kernel⟩
abbrev s_is_number : Stmt := top 3
theorem sc_is_number : FnScope ["thing"] ["thing"] (defScope s_is_number) := ⟨rfl, rfl, rfl, by decide +kernel, rfl, by decide +kernel, by decide +kernel⟩
abbrev s_is_symbol : Stmt := top 9
theorem sc_is_symbol : FnScope ["thing", "sign"] ["thing"] (defScope s_is_symbol) := ⟨rfl, rfl, rfl, by decide +kernel, rfl, by decide +kernel, by decide +kernel⟩
abbrev s_are_symbols : Stmt := top 10
theorem sc_are_symbols : FnScope ["things", "one"] ["things"] (defScope s_are_symbols) := ⟨rfl, rfl, rfl, by decide +kernel, rfl, by decide +kernel, by decide +kernel⟩
abbrev s_kept_counts : Stmt := top 12
theorem sc_kept_counts : FnScope ["thing", "one"] ["thing"] (defScope s_kept_counts) := ⟨rfl, rfl, rfl, by decide +kernel, rfl, by decide +kernel, by decide +kernel⟩
abbrev s_need_counts : Stmt := top 13
theorem sc_need_counts : FnScope ["counts", "kept"] ["counts"] (defScope s_need_counts) := ⟨rfl, rfl, rfl, by decide +kernel, rfl, by decide +kernel, by decide +kernel⟩
abbrev s_shares_by : Stmt := top 15
theorem sc_shares_by : FnScope ["numbers", "many", "costs", "cuts", "at", "size", "first", "last", "whole", "best", "cut", "cost"] ["numbers"] (defScope s_shares_by) := ⟨rfl, rfl, rfl, by decide +kernel, rfl, by decide +kernel, by decide +kernel⟩
abbrev s_least_shares : Stmt := top 16
theorem sc_least_shares : FnScope ["counts", "kept", "costs", "one", "first", "last"] ["counts"] (defScope s_least_shares) := ⟨rfl, rfl, rfl, by decide +kernel, rfl, by decide +kernel, by decide +kernel⟩
abbrev s_are_shares : Stmt := top 17
theorem sc_are_shares : FnScope ["counts", "thing", "kept", "numbers", "many", "one", "first", "row", "last", "whole", "cut"] ["counts", "thing"] (defScope s_are_shares) := ⟨rfl, rfl, rfl, by decide +kernel, rfl, by decide +kernel, by decide +kernel⟩
abbrev s__law_stream : Stmt := top 19
theorem sc__law_stream : FnScope ["script"] ["script"] (defScope s__law_stream) := ⟨rfl, rfl, rfl, by decide +kernel, rfl, by decide +kernel, by decide +kernel⟩
abbrev s__law_draw : Stmt := top 20
theorem sc__law_draw : FnScope ["stream", "many", "cell", "digit", "mixed"] ["stream", "many"] (defScope s__law_draw) := ⟨rfl, rfl, rfl, by decide +kernel, rfl, by decide +kernel, by decide +kernel⟩
abbrev s__law_pick : Stmt := top 21
theorem sc__law_pick : FnScope ["stream", "things"] ["stream", "things"] (defScope s__law_pick) := ⟨rfl, rfl, rfl, by decide +kernel, rfl, by decide +kernel, by decide +kernel⟩
abbrev s__law_mixed : Stmt := top 22
theorem sc__law_mixed : FnScope ["stream", "things", "left", "found", "k"] ["stream", "things"] (defScope s__law_mixed) := ⟨rfl, rfl, rfl, by decide +kernel, rfl, by decide +kernel, by decide +kernel⟩
abbrev s__law_same : Stmt := top 23
theorem sc__law_same : FnScope ["found", "due", "mine", "theirs"] ["found", "due"] (defScope s__law_same) := ⟨rfl, rfl, rfl, by decide +kernel, rfl, by decide +kernel, by decide +kernel⟩
abbrev s__law_copied : Stmt := top 24
theorem sc__law_copied : FnScope ["thing", "key", "some", "one"] ["thing"] (defScope s__law_copied) := ⟨rfl, rfl, rfl, by decide +kernel, rfl, by decide +kernel, by decide +kernel⟩
abbrev s__law_loose : Stmt := top 25
theorem sc__law_loose : FnScope ["stream", "thing", "some", "part"] ["stream", "thing"] (defScope s__law_loose) := ⟨rfl, rfl, rfl, by decide +kernel, rfl, by decide +kernel, by decide +kernel⟩
abbrev s__law_is_number : Stmt := top 26
theorem sc__law_is_number : FnScope ["thing", "most"] ["thing", "most"] (defScope s__law_is_number) := ⟨rfl, rfl, rfl, by decide +kernel, rfl, by decide +kernel, by decide +kernel⟩
abbrev s__law_e_bent : Stmt := top 27
theorem sc__law_e_bent : FnScope ["stream", "thing", "odds", "at", "way", "middle", "found"] ["stream", "thing", "odds"] (defScope s__law_e_bent) := ⟨rfl, rfl, rfl, by decide +kernel, rfl, by decide +kernel, by decide +kernel⟩
abbrev s__law_e_symbols : Stmt := top 28
theorem sc__law_e_symbols : FnScope ["stream", "many", "k"] ["stream", "many"] (defScope s__law_e_symbols) := ⟨rfl, rfl, rfl, by decide +kernel, rfl, by decide +kernel, by decide +kernel⟩
abbrev s__law_e_shuffled : Stmt := top 29
theorem sc__law_e_shuffled : FnScope ["stream", "thing", "key"] ["stream", "thing"] (defScope s__law_e_shuffled) := ⟨rfl, rfl, rfl, by decide +kernel, rfl, by decide +kernel, by decide +kernel⟩
abbrev s__law_e_counts : Stmt := top 30
theorem sc__law_e_counts : FnScope ["stream", "most", "many", "way", "numbers", "k"] ["stream", "most"] (defScope s__law_e_counts) := ⟨rfl, rfl, rfl, by decide +kernel, rfl, by decide +kernel, by decide +kernel⟩
abbrev s__law_e_odd_counts : Stmt := top 31
theorem sc__law_e_odd_counts : FnScope ["odds"] [] (defScope s__law_e_odd_counts) := ⟨rfl, rfl, rfl, by decide +kernel, rfl, by decide +kernel, by decide +kernel⟩
abbrev s__law_e_shares : Stmt := top 32
theorem sc__law_e_shares : FnScope ["numbers", "found", "first", "row", "last", "whole", "cut"] ["numbers"] (defScope s__law_e_shares) := ⟨rfl, rfl, rfl, by decide +kernel, rfl, by decide +kernel, by decide +kernel⟩
abbrev s__law_met : Stmt := top 33
theorem sc__law_met : FnScope ["ask", "e"] ["ask"] (defScope s__law_met) := ⟨rfl, rfl, rfl, by decide +kernel, rfl, by decide +kernel, by decide +kernel⟩
abbrev s__law_are : Stmt := top 34
theorem sc__law_are : FnScope ["numbers", "thing", "first", "row", "one", "last", "some", "cut"] ["numbers", "thing"] (defScope s__law_are) := ⟨rfl, rfl, rfl, by decide +kernel, rfl, by decide +kernel, by decide +kernel⟩
abbrev s_law : Stmt := top 35
theorem sc_law : FnScope ["script", "stream", "odds", "turn", "counts", "handed", "numbers", "one", "was", "due", "told", "nought", "row", "things", "k", "other", "at", "thing", "own", "is_due", "odd"] ["script"] (defScope s_law) := ⟨rfl, rfl, rfl, by decide +kernel, rfl, by decide +kernel, by decide +kernel⟩
structure Nv (K : PySem.W.Frag) (mg : Str → Option Value) : Prop where
  b_abs : mg "abs" = none
  b_all : mg "all" = none
  b_bool : mg "bool" = none
  b_dict : mg "dict" = none
  b_enumerate : mg "enumerate" = none
  b_int : mg "int" = none
  b_isinstance : mg "isinstance" = none
  b_len : mg "len" = none
  b_list : mg "list" = none
  b_min : mg "min" = none
  b_range : mg "range" = none
  b_sorted : mg "sorted" = none
  b_str : mg "str" = none
  b_sum : mg "sum" = none
  b_tuple : mg "tuple" = none
  b_zip : mg "zip" = none
  g_LETTERS : ∃ t, mg "LETTERS" = some (.str "abcdefghijklmnopqrstuvwxyz" t)
  f_is_list : ∃ f fd, Fun K "is_list" "is_list" s_is_list f fd ∧ mg "is_list" = some (.ref f)
  f_is_whole : ∃ f fd, Fun K "is_whole" "is_whole" s_is_whole f fd ∧ mg "is_whole" = some (.ref f)
  f_is_number : ∃ f fd, Fun K "is_number" "is_number" s_is_number f fd ∧ mg "is_number" = some (.ref f)
  f_is_symbol : ∃ f fd, Fun K "is_symbol" "is_symbol" s_is_symbol f fd ∧ mg "is_symbol" = some (.ref f)
  f_are_symbols : ∃ f fd, Fun K "are_symbols" "are_symbols" s_are_symbols f fd ∧ mg "are_symbols" = some (.ref f)
  f_kept_counts : ∃ f fd, Fun K "kept_counts" "kept_counts" s_kept_counts f fd ∧ mg "kept_counts" = some (.ref f)
  f_need_counts : ∃ f fd, Fun K "need_counts" "need_counts" s_need_counts f fd ∧ mg "need_counts" = some (.ref f)
  f_shares_by : ∃ f fd, Fun K "shares_by" "shares_by" s_shares_by f fd ∧ mg "shares_by" = some (.ref f)
  f_least_shares : ∃ f fd, Fun K "least_shares" "least_shares" s_least_shares f fd ∧ mg "least_shares" = some (.ref f)
  f_are_shares : ∃ f fd, Fun K "are_shares" "are_shares" s_are_shares f fd ∧ mg "are_shares" = some (.ref f)
  f__law_stream : ∃ f fd, Fun K "_law_stream" "_law_stream" s__law_stream f fd ∧ mg "_law_stream" = some (.ref f)
  f__law_draw : ∃ f fd, Fun K "_law_draw" "_law_draw" s__law_draw f fd ∧ mg "_law_draw" = some (.ref f)
  f__law_pick : ∃ f fd, Fun K "_law_pick" "_law_pick" s__law_pick f fd ∧ mg "_law_pick" = some (.ref f)
  f__law_mixed : ∃ f fd, Fun K "_law_mixed" "_law_mixed" s__law_mixed f fd ∧ mg "_law_mixed" = some (.ref f)
  f__law_same : ∃ f fd, Fun K "_law_same" "_law_same" s__law_same f fd ∧ mg "_law_same" = some (.ref f)
  f__law_copied : ∃ f fd, Fun K "_law_copied" "_law_copied" s__law_copied f fd ∧ mg "_law_copied" = some (.ref f)
  f__law_loose : ∃ f fd, Fun K "_law_loose" "_law_loose" s__law_loose f fd ∧ mg "_law_loose" = some (.ref f)
  f__law_is_number : ∃ f fd, Fun K "_law_is_number" "_law_is_number" s__law_is_number f fd ∧ mg "_law_is_number" = some (.ref f)
  f__law_e_bent : ∃ f fd, Fun K "_law_e_bent" "_law_e_bent" s__law_e_bent f fd ∧ mg "_law_e_bent" = some (.ref f)
  f__law_e_symbols : ∃ f fd, Fun K "_law_e_symbols" "_law_e_symbols" s__law_e_symbols f fd ∧ mg "_law_e_symbols" = some (.ref f)
  f__law_e_shuffled : ∃ f fd, Fun K "_law_e_shuffled" "_law_e_shuffled" s__law_e_shuffled f fd ∧ mg "_law_e_shuffled" = some (.ref f)
  f__law_e_counts : ∃ f fd, Fun K "_law_e_counts" "_law_e_counts" s__law_e_counts f fd ∧ mg "_law_e_counts" = some (.ref f)
  f__law_e_odd_counts : ∃ f fd, Fun K "_law_e_odd_counts" "_law_e_odd_counts" s__law_e_odd_counts f fd ∧ mg "_law_e_odd_counts" = some (.ref f)
  f__law_e_shares : ∃ f fd, Fun K "_law_e_shares" "_law_e_shares" s__law_e_shares f fd ∧ mg "_law_e_shares" = some (.ref f)
  f__law_met : ∃ f fd, Fun K "_law_met" "_law_met" s__law_met f fd ∧ mg "_law_met" = some (.ref f)
  f__law_are : ∃ f fd, Fun K "_law_are" "_law_are" s__law_are f fd ∧ mg "_law_are" = some (.ref f)
  f_law : ∃ f fd, Fun K "law" "law" s_law f fd ∧ mg "law" = some (.ref f)

section
variable {P : Program} {w : World} {K : PySem.W.Frag} {mg : Str → Option Value} {base : Heap}
/-! ### basics -/
def lstQ (A : MH) (d : D) : Option Bool := (tyQ A d).map fun t => decide (t = .lst) || decide (t = .tup)
def f_list (A : MH) (d : D) : Option D := (lstQ A d).map .bl
theorem d_is_list (Z : Nv K mg) : Def P w K mg base 1 "is_list" (defArgs s_is_list) ["thing"] (r1 f_list) := mkDef Z.f_is_list (fun f fd F => by
  have S := sc_is_list
  refine def_ok F S r1_len fun cdv A outer s H E tb hr => ⟨_, (psq_one (psq_ret (pq_istN (qv 0) (.cons (c := .lst) (pq_ty Z.b_list) rfl (.cons (c := .tup) (pq_ty Z.b_tuple) rfl .nil)) Z.b_isinstance))), ?_⟩
  rintro ds A P ⟨d, rfl, h⟩
  rw [show startQ ["thing"] [d] = [some (d)] from rfl]
  walk_at "rd"
  unfold f_list lstQ at h
  cases e : tyQ A d with
  | none => rw [e] at h; exact h.elim
  | some t => rw [e] at h; cases t <;> exact h) (fun _ _ _ _ _ _ us hl => match us, hl with | [_], _ => rfl)
def whlQ (A : MH) (d : D) : Option Bool := (tyQ A d).map fun t => decide (t = .int)
def f_whole (A : MH) (d : D) : Option D := (whlQ A d).map .bl
theorem d_is_whole (Z : Nv K mg) : Def P w K mg base 1 "is_whole" (defArgs s_is_whole) ["thing"] (r1 f_whole) := mkDef Z.f_is_whole (fun f fd F => by
  have S := sc_is_whole
  refine def_ok F S r1_len fun cdv A outer s H E tb hr => ⟨_, (psq_one (psq_ret (pq_and (pq_ist1 .int (qv 0) (pq_ty Z.b_int) Z.b_isinstance) (pq_one (pq_not (pq_ist1 .bl (qv 0) (pq_ty Z.b_bool) Z.b_isinstance)))))), ?_⟩
  rintro ds A P ⟨d, rfl, h⟩
  rw [show startQ ["thing"] [d] = [some (d)] from rfl]
  walk_at "rd"
  unfold f_whole whlQ at h
  cases e : tyQ A d with
  | none => rw [e] at h; exact h.elim
  | some t => rw [e] at h; cases t <;> exact h) (fun _ _ _ _ _ _ us hl => match us, hl with | [_], _ => rfl)
/-- a number of 0 or more -/
def numQ (A : MH) : D → Option Bool
  | .int i => some (decide (0 ≤ i))
  | d => (tyQ A d).map fun _ => false
def f_number (A : MH) (d : D) : Option D := (numQ A d).map .bl
theorem tyQ_int {A : MH} {d : D} (h : tyQ A d = some .int) : ∃ i, d = .int i := by
  unfold tyQ at h
  split at h <;> first | exact ⟨_, rfl⟩ | (exfalso; revert h; first | (intro h; cases h; done) | (split <;> (intro h; cases h)))
theorem tyQ_str {A : MH} {d : D} (h : tyQ A d = some .str) : ∃ i, d = .str i := by
  unfold tyQ at h
  split at h <;> first | exact ⟨_, rfl⟩ | (exfalso; revert h; first | (intro h; cases h; done) | (split <;> (intro h; cases h)))
theorem numQ_not {A : MH} {d : D} {t : Ty} (h : tyQ A d = some t) (n : t ≠ .int) : numQ A d = some false := by
  unfold numQ
  split
  · cases h; exact absurd rfl n
  · rw [h]; rfl
theorem d_is_number (Z : Nv K mg) : Def P w K mg base 2 "is_number" (defArgs s_is_number) ["thing"] (r1 f_number) := mkDef Z.f_is_number (fun f fd F => by
  have S := sc_is_number
  refine def_ok F S r1_len fun cdv A outer s H E tb hr => ?_
  have G_is_whole := d_is_whole (P := P) (w := w) (base := base) Z
  have HR_is_whole := hr
  refine ⟨_, (psq_one (psq_ret (pq_and (pq_fn G_is_whole HR_is_whole (paq_cons (qv 0) paq_nil)) (pq_one (pq_geI (qv 0) pq_int))))), ?_⟩
  rintro ds A P ⟨d, rfl, h⟩
  rw [show startQ ["thing"] [d] = [some (d)] from rfl]
  walk_at "rd"
  unfold f_number at h
  unfold f_whole whlQ
  cases e : tyQ A d with
  | none =>
    have : numQ A d = none := by
      unfold numQ
      split
      · cases e
      · rw [e]; rfl
    rw [this] at h; exact h.elim
  | some t =>
    by_cases q : t = .int
    · subst q
      obtain ⟨i, rfl⟩ := tyQ_int e
      exact h
    · rw [numQ_not e q] at h
      simp only [Option.map_some, okQ_some, decide_eq_false q]
      exact h) (fun _ _ _ _ _ _ us hl => match us, hl with | [_], _ => rfl)
end
end K68


set_option Elab.async false
set_option linter.all false
set_option maxRecDepth 100000
set_option maxHeartbeats 4000000
namespace K68
open PySem L2 Qd
local macro_rules | `(tactic| walk_at "rd") => `(tactic| simp only [qVar_z, qVar_s, qC, qSeq, qNext, qRet, qRetN, qIfS, qTest, qIs, qOp, qUn, qAnd, qOr, qNot, qAndV, qOrV, qNotV, qCB, qCons, qNil, okQ_some, okQ_none, qIf, qChain, qI, qIC, r1_rd, r2_rd, Qd.rLen, qLc, qIt, rAllQ, rAnyQ, rSumQ, rMinQ, rMaxQ, rAbsQ, rIntQ, newL_f, newL_t, Bool.false_eq_true, if_false, qInS, qEq, qNe, qIsN, qNotN, qDrop, if_true, qDcB, qFill, kkB, qDGet, kkK, qDcK, qFzD, qAsg, tset_nm, tset_tp, tsets_nil, tsets_nm, tsets_tp, wipe_nil, wipe_cons, List.set_cons_zero, List.set_cons_succ, qRaise, qFor, qRng1, qRng2, qTup, qLst, qPar, eqD_int, eqD_str, eqD_bl, itD_lst, itD_tup, itD_dic, lenD_lst, lenD_tup, lenD_dic, dicD_dic, lstD_lst, seqD_lst, seqD_tup, qSl, qoNone, qoSome, qRevL, qLrg1, qLrg2, qCX, qKw, qKwX, List.length_cons, List.length_nil, List.map_cons, List.map_nil, qAsgG, gTupQ, gConsQ, gSubT, gNilQ, qTGet, qDcT, kkT, qNewT, qNewK, List.length_map, Int.toNat_natCast, ditD_mut, qIx_tup, qIx_lst, keysT_2, Bool.or_true, Bool.true_or, Int.zero_add, isN_tup, isN_lst, isN_int, isN_dic, isN_non, at_zero, qMeth, qAddL, qMulL, rTupQ, qCBw, qLX, qLKw, qMet, pick_0, pick_10, qFz, qFzN, qDispF, qNewF, qDictF, qpCons, qpNil, qDispB, qDispT, keyPs, obD, qEqV, gSubQ, qNegI, at4_0, at4_1, at4_2, at4_3, ix4_1, ix4_2, ix4_3])
local macro_rules | `(tactic| walk_at "rs") => `(tactic| simp only [qVar_z, qVar_s, qC, qNext, qRet, qRetN, qIfS, qTest, qIs, qOp, qUn, qAnd, qOr, qNot, qAndV, qOrV, qNotV, qCB, qCons, qNil, okQ_some, okQ_none, qIf, qChain, qI, qIC, r1_rd, r2_rd, Qd.rLen, qLc, qIt, rAllQ, rAnyQ, rSumQ, rMinQ, rMaxQ, rAbsQ, rIntQ, newL_f, newL_t, Bool.false_eq_true, if_false, qInS, qEq, qNe, qIsN, qNotN, qDrop, if_true, qDcB, qFill, kkB, qDGet, kkK, qDcK, qFzD, qAsg, tset_nm, tset_tp, tsets_nil, tsets_nm, tsets_tp, wipe_nil, wipe_cons, List.set_cons_zero, List.set_cons_succ, qRaise, qFor, qRng1, qRng2, qTup, qLst, qPar, eqD_int, eqD_str, eqD_bl, itD_lst, itD_tup, itD_dic, lenD_lst, lenD_tup, lenD_dic, dicD_dic, lstD_lst, seqD_lst, seqD_tup, qSl, qoNone, qoSome, qRevL, qLrg1, qLrg2, qCX, qKw, qKwX, List.length_cons, List.length_nil, List.map_cons, List.map_nil, qAsgG, gTupQ, gConsQ, gSubT, gNilQ, qTGet, qDcT, kkT, qNewT, qNewK, List.length_map, Int.toNat_natCast, ditD_mut, qIx_tup, qIx_lst, keysT_2, Bool.or_true, Bool.true_or, Int.zero_add, isN_tup, isN_lst, isN_int, isN_dic, isN_non, at_zero, qMeth, qAddL, qMulL, rTupQ, qCBw, qLX, qLKw, qMet, pick_0, pick_10, qFz, qFzN, qDispF, qNewF, qDictF, qpCons, qpNil, qDispB, qDispT, keyPs, obD, qEqV, gSubQ, qNegI, at4_0, at4_1, at4_2, at4_3, ix4_1, ix4_2, ix4_3])
section
variable {P : Program} {w : World} {K : PySem.W.Frag} {mg : Str → Option Value} {base : Heap}
def letters : Str := "abcdefghijklmnopqrstuvwxyz"
def symS (x : Str) : Bool := decide (1 ≤ x.length) && (decide (x.length ≤ 8) && x.cps.toList.all fun c => decide (c ∈ letters.cps.toList))
def symQ (A : MH) : D → Option Bool
  | .str x => if x.length ≤ 100000 then some (symS x) else none
  | .int i => some (decide (0 ≤ i) && decide (i ≤ 255))
  | d => (tyQ A d).map fun _ => false
def f_symbol (A : MH) (d : D) : Option D := (symQ A d).map .bl
theorem sgn_all (x : Str) : mapO (fun d => match d with | .str y => (inSg y letters).map D.bl | _ => none) (sgnD x) = some ((x.cps.toList.map fun c => decide (c ∈ letters.cps.toList)).map .bl) := by
  unfold sgnD
  rw [List.map_map]
  exact mapO_map fun c _ => rfl
theorem d_is_symbol (Z : Nv K mg) : Def P w K mg base 2 "is_symbol" (defArgs s_is_symbol) ["thing"] (r1 f_symbol) := mkDef Z.f_is_symbol (fun f fd F => by
  have S := sc_is_symbol
  refine def_ok F S r1_len fun cdv A outer s H E tb hr => ?_
  have G_is_whole := d_is_whole (P := P) (w := w) (base := base) Z
  have HR_is_whole := hr
  obtain ⟨_, L_LETTERS⟩ := Z.g_LETTERS
  refine ⟨_, (psq_cons (psq_if (ptq_val (pq_ist1 .str (qv 0) (pq_ty Z.b_str) Z.b_isinstance)) (psq_one (psq_ret (pq_and (pq_chainLeLe pq_int (pq_bi cq_len Z.b_len (paq_cons (qv 0) paq_nil)) pq_int) (pq_one (pq_bi (cq_all rfl) Z.b_all (paq_cons (pq_lc false rfl S.nd (piq_it (qv 0)) (blkOk_by (N := ["thing", "sign"]) (sc := defScope s_is_symbol) (own := [("sign", 1)]) (by decide +kernel)) (fun _ _ _ _ _ => (gq_nm 1 S.nd)) (fun _ _ _ _ _ => qts_nil) (fun _ _ _ _ _ => (pq_inS (qv 1) (pq_gstr L_LETTERS)))) paq_nil)))))) psq_nil) (psq_one (psq_ret (pq_and (pq_fn G_is_whole HR_is_whole (paq_cons (qv 0) paq_nil)) (pq_one (pq_chainLeLe pq_int (qv 0) pq_int)))))), ?_⟩
  rintro ds A P ⟨d, rfl, h⟩
  rw [show startQ ["thing", "sign"] [d] = [some (d), none] from rfl]
  walk_at "rd"
  unfold f_symbol at h
  cases e : tyQ A d with
  | none =>
    have : symQ A d = none := by
      unfold symQ
      split
      · cases e
      · cases e
      · rw [e]; rfl
    rw [this] at h; exact h.elim
  | some t =>
    by_cases q : t = .str
    · subst q
      obtain ⟨x, rfl⟩ := tyQ_str e
      rw [okQ_some, if_pos (by rfl)]
      unfold symQ at h
      by_cases hl : x.length ≤ 100000
      · simp only [if_pos hl, Option.map_some, okQ_some] at h
        rw [show lenD A (.str x) = some x.length from if_pos hl, okQ_some]
        unfold symS at h
        by_cases h1 : 1 ≤ x.length
        · rw [decide_eq_true h1, Bool.true_and] at h
          rw [decide_eq_true (by omega : (1 : Int) ≤ (x.length : Int))]
          by_cases h2 : x.length ≤ 8
          · rw [decide_eq_true h2, Bool.true_and] at h
            rw [decide_eq_true (by omega : (x.length : Int) ≤ 8)]
            show compL (Tgt.nm 1) _ _ _ (sgnD x) [] A _
            have hs : (sgnD x).length = x.length := by unfold sgnD; rw [List.length_map, Array.length_toList]; rfl
            refine compL_map _ (sgnD x) [] (by rw [hs]; simp; omega) (fun y hy Q hQ => ?_) (okQ_mk (sgn_all x) ?_)
            · unfold sgnD at hy
              obtain ⟨c, _, rfl⟩ := List.mem_map.mp hy
              exact hQ
            · show okQ ((some ([] ++ (x.cps.toList.map fun c => decide (c ∈ letters.cps.toList)).map D.bl)).bind blsD) _
              rw [show (some ([] ++ (x.cps.toList.map fun c => decide (c ∈ letters.cps.toList)).map D.bl)).bind blsD = some (x.cps.toList.map fun c => decide (c ∈ letters.cps.toList)) from blsD_map _, okQ_some]
              rw [List.all_map]
              exact h
          · rw [decide_eq_false h2] at h
            rw [decide_eq_false (by omega : ¬ (x.length : Int) ≤ 8)]
            exact h
        · rw [decide_eq_false h1] at h
          rw [decide_eq_false (by omega : ¬ (1 : Int) ≤ (x.length : Int))]
          exact h
      · simp only [if_neg hl] at h; exact h.elim
    · rw [okQ_some, if_neg (by cases t <;> first | exact absurd rfl q | decide)]
      unfold f_whole whlQ
      rw [e, Option.map_some, Option.map_some, okQ_some]
      by_cases q2 : t = .int
      · subst q2
        obtain ⟨i, rfl⟩ := tyQ_int e
        show (match D.bl (decide (0 ≤ i)) with | .bl true => _ | .bl false => _ | _ => False)
        unfold symQ at h
        rw [Option.map_some, okQ_some] at h
        by_cases h0 : 0 ≤ i
        · rw [decide_eq_true h0] at h ⊢; exact h
        · rw [decide_eq_false h0] at h ⊢; exact h
      · rw [decide_eq_false q2]
        have : symQ A d = some false := by
          unfold symQ
          split
          · cases e; exact absurd rfl q
          · cases e; exact absurd rfl q2
          · rw [e]; rfl
        rw [this] at h
        exact h) (fun _ _ _ _ _ _ us hl => match us, hl with | [_], _ => rfl)
/-- all are symbols, of one kind -/
def symsQ (A : MH) (xs : List D) : Option Bool := if xs.length ≤ 100000 then (mapO (symQ A) xs).bind fun bs => if xs = [] ∨ bs.all id = false then some false else (mapO (tyQ A) xs).map fun ts => ts.all (fun t => decide (t = .str)) || ts.all (fun t => !decide (t = .str)) else none
def f_symbols (A : MH) : D → Option D
  | .lst xs => (symsQ A xs).map .bl
  | _ => none
theorem d_are_symbols (Z : Nv K mg) : Def P w K mg base 3 "are_symbols" (defArgs s_are_symbols) ["things"] (r1 f_symbols) := mkDef Z.f_are_symbols (fun f fd F => by
  have S := sc_are_symbols
  refine def_ok F S r1_len fun cdv A outer s H E tb hr => ?_
  have G_is_symbol := d_is_symbol (P := P) (w := w) (base := base) Z
  have HR_is_symbol := hr
  refine ⟨_, (psq_cons (psq_if ((pwq_or (ptq_eq hr.units (pq_bi cq_len Z.b_len (paq_cons (qv 0) paq_nil)) pq_int) (pwq_or1 (ptq_not (ptq_val (pq_bi (cq_all rfl) Z.b_all (paq_cons (pq_lc false rfl S.nd (piq_it (qv 0)) (blkOk_by (N := ["things", "one"]) (sc := defScope s_are_symbols) (own := [("one", 1)]) (by decide +kernel)) (fun _ _ _ _ _ => (gq_nm 1 S.nd)) (fun _ _ _ _ _ => qts_nil) (fun _ _ _ _ _ => (pq_fn G_is_symbol HR_is_symbol (paq_cons (qv 1) paq_nil)))) paq_nil))))))).pt (psq_one (psq_ret pq_bl)) psq_nil) (psq_one (psq_ret (pq_eq hr.units (pq_bi cq_len Z.b_len (paq_cons (pq_dcB rfl S.nd (piq_it (qv 0)) (blkOk_by (N := ["things", "one"]) (sc := defScope s_are_symbols) (own := [("one", 1)]) (by decide +kernel)) ⟨fun _ _ _ _ _ => (gq_nm 1 S.nd), fun _ _ _ _ _ => qts_nil, fun _ _ _ _ _ => pq_bl⟩ (fun _ _ _ _ _ => (pq_ist1 .str (qv 1) (pq_ty Z.b_str) Z.b_isinstance))) paq_nil)) pq_int)))), ?_⟩
  rintro ds A P ⟨d, rfl, h⟩
  rw [show startQ ["things", "one"] [d] = [some (d), none] from rfl]
  unfold f_symbols at h
  split at h
  case h_2 => exact h.elim
  rename_i xs
  unfold symsQ at h
  split at h
  case isFalse => exact h.elim
  rename_i hl
  walk_at "rd"
  cases e1 : mapO (symQ A) xs with
  | none => rw [e1] at h; exact h.elim
  | some bs =>
    rw [e1, Option.bind_some] at h
    by_cases hx : xs = []
    · subst hx
      rw [if_pos (.inl rfl)] at h
      rw [if_pos (by rfl)]
      exact h
    · have hn : ¬ (decide ((xs.length : Int) = 0) = true) := by
        rw [decide_eq_true_eq]
        intro z
        exact hx (List.length_eq_zero_iff.mp (by omega))
      rw [if_neg hn]
      show compL _ _ _ _ xs [] A _
      have e2 : mapO (f_symbol A) xs = some (bs.map D.bl) := mapO_comp D.bl e1 fun x _ y e => by unfold f_symbol; rw [e]; rfl
      refine compL_map (f_symbol A) xs [] (by simpa using hl) (fun y _ Q hQ => (by show r1 f_symbol [y] A Q; rw [r1_rd]; exact hQ)) (okQ_mk e2 ?_)
      rw [show (some ([] ++ bs.map D.bl)).bind blsD = some bs from blsD_map bs, okQ_some]
      cases hb : bs.all id with
      | false =>
        rw [if_pos (.inr hb)] at h
        exact h
      | true =>
        rw [if_neg (by rintro (z | z); exact hx z; rw [hb] at z; cases z)] at h
        rw [if_neg (by decide)]
        cases e3 : mapO (tyQ A) xs with
        | none => rw [e3] at h; exact h.elim
        | some ts =>
          rw [e3] at h
          show compF _ _ _ _ _ xs [] A _
          refine compF_map (fun x => (tyQ A x).map fun t => some (decide (t = .str))) (fun _ => some (.bl true)) xs [] (by simpa using hl) (fun y _ Q hQ => ?_) (okQ_mk (mapO_comp (fun t : Ty => (some (decide (t = .str)), D.bl true)) e3 fun x _ y e => by rw [e]; rfl) ?_)
          · show okQ (tyQ A y) _
            cases e4 : tyQ A y with
            | none => rw [e4] at hQ; exact hQ.elim
            | some t =>
              rw [e4] at hQ
              cases t <;> exact hQ
          · have e5 : (ts.map fun t : Ty => (some (decide (t = .str)), D.bl true)) = (ts.map fun t : Ty => decide (t = .str)).map fun b => (some b, D.bl true) := by rw [List.map_map]; rfl
            rw [e5]
            have hm := merge_bools (ts.map fun t : Ty => decide (t = .str)) [] .nil
            have hne : ([] : List Bool) ++ (ts.map fun t : Ty => decide (t = .str)) ≠ [] := by
              intro z
              have := mapO_length e3
              rw [List.nil_append, List.map_eq_nil_iff] at z
              rw [z] at this
              exact hx (List.length_eq_zero_iff.mp this.symm)
            rw [List.nil_append] at hm hne
            show okQ (some ((mergeA [] _).map _).length) _
            rw [okQ_some, List.length_map]
            have e6 : decide (((mergeA [] ((ts.map fun t : Ty => decide (t = .str)).map fun b => (some b, D.bl true))).length : Int) = 1) = ((ts.all fun t => decide (t = .str)) || ts.all fun t => !decide (t = .str)) := by
              rw [Bool.eq_iff_iff, decide_eq_true_eq, Bool.or_eq_true]
              rw [List.all_map, List.all_map] at hm
              constructor
              · intro z
                exact (hm.mp (by have : (mergeA (([] : List Bool).map fun b => (some b, D.bl true)) ((ts.map fun t : Ty => decide (t = .str)).map fun b => (some b, D.bl true))).length = 1 := by exact_mod_cast z
                                 exact this)).2
              · intro z
                have := hm.mpr ⟨hne, z⟩
                exact_mod_cast this
            rw [e6]
            exact h) (fun _ _ _ _ _ _ us hl => match us, hl with | [_], _ => rfl)
end
end K68


set_option Elab.async false
set_option linter.all false
set_option maxRecDepth 100000
set_option maxHeartbeats 4000000
namespace K68
open PySem L2 Qd
local macro_rules | `(tactic| walk_at "rd") => `(tactic| simp only [qVar_z, qVar_s, qC, qSeq, qNext, qRet, qRetN, qIfS, qTest, qIs, qOp, qUn, qAnd, qOr, qNot, qAndV, qOrV, qNotV, qCB, qCons, qNil, okQ_some, okQ_none, qIf, qChain, qI, qIC, r1_rd, r2_rd, Qd.rLen, qLc, qIt, rAllQ, rAnyQ, rSumQ, rMinQ, rMaxQ, rAbsQ, rIntQ, newL_f, newL_t, Bool.false_eq_true, if_false, qInS, qEq, qNe, qIsN, qNotN, qDrop, if_true, qDcB, qFill, kkB, qDGet, kkK, qDcK, qFzD, qAsg, tset_nm, tset_tp, tsets_nil, tsets_nm, tsets_tp, wipe_nil, wipe_cons, List.set_cons_zero, List.set_cons_succ, qRaise, qFor, qRng1, qRng2, qTup, qLst, qPar, eqD_int, eqD_str, eqD_bl, itD_lst, itD_tup, itD_dic, lenD_lst, lenD_tup, lenD_dic, dicD_dic, lstD_lst, seqD_lst, seqD_tup, qSl, qoNone, qoSome, qRevL, qLrg1, qLrg2, qCX, qKw, qKwX, List.length_cons, List.length_nil, List.map_cons, List.map_nil, qAsgG, gTupQ, gConsQ, gSubT, gNilQ, qTGet, qDcT, kkT, qNewT, qNewK, List.length_map, Int.toNat_natCast, ditD_mut, qIx_tup, qIx_lst, keysT_2, Bool.or_true, Bool.true_or, Int.zero_add, isN_tup, isN_lst, isN_int, isN_dic, isN_non, at_zero, qMeth, qAddL, qMulL, rTupQ, qCBw, qLX, qLKw, qMet, pick_0, pick_10, qFz, qFzN, qDispF, qNewF, qDictF, qpCons, qpNil, qDispB, qDispT, keyPs, obD, qEqV, gSubQ, qNegI, at4_0, at4_1, at4_2, at4_3, ix4_1, ix4_2, ix4_3])
local macro_rules | `(tactic| walk_at "rs") => `(tactic| simp only [qVar_z, qVar_s, qC, qNext, qRet, qRetN, qIfS, qTest, qIs, qOp, qUn, qAnd, qOr, qNot, qAndV, qOrV, qNotV, qCB, qCons, qNil, okQ_some, okQ_none, qIf, qChain, qI, qIC, r1_rd, r2_rd, Qd.rLen, qLc, qIt, rAllQ, rAnyQ, rSumQ, rMinQ, rMaxQ, rAbsQ, rIntQ, newL_f, newL_t, Bool.false_eq_true, if_false, qInS, qEq, qNe, qIsN, qNotN, qDrop, if_true, qDcB, qFill, kkB, qDGet, kkK, qDcK, qFzD, qAsg, tset_nm, tset_tp, tsets_nil, tsets_nm, tsets_tp, wipe_nil, wipe_cons, List.set_cons_zero, List.set_cons_succ, qRaise, qFor, qRng1, qRng2, qTup, qLst, qPar, eqD_int, eqD_str, eqD_bl, itD_lst, itD_tup, itD_dic, lenD_lst, lenD_tup, lenD_dic, dicD_dic, lstD_lst, seqD_lst, seqD_tup, qSl, qoNone, qoSome, qRevL, qLrg1, qLrg2, qCX, qKw, qKwX, List.length_cons, List.length_nil, List.map_cons, List.map_nil, qAsgG, gTupQ, gConsQ, gSubT, gNilQ, qTGet, qDcT, kkT, qNewT, qNewK, List.length_map, Int.toNat_natCast, ditD_mut, qIx_tup, qIx_lst, keysT_2, Bool.or_true, Bool.true_or, Int.zero_add, isN_tup, isN_lst, isN_int, isN_dic, isN_non, at_zero, qMeth, qAddL, qMulL, rTupQ, qCBw, qLX, qLKw, qMet, pick_0, pick_10, qFz, qFzN, qDispF, qNewF, qDictF, qpCons, qpNil, qDispB, qDispT, keyPs, obD, qEqV, gSubQ, qNegI, at4_0, at4_1, at4_2, at4_3, ix4_1, ix4_2, ix4_3])
section
variable {P : Program} {w : World} {K : PySem.W.Frag} {mg : Str → Option Value} {base : Heap}
def posQ (A : MH) : D → Option Bool
  | .int i => some (decide (0 < i))
  | d => (tyQ A d).map fun _ => false
def keptK (ps : List (Key × D)) : Option (List (Key × D)) := (sortKeys ps).bind fun ks => mapO (fun k => (getA ps k).map fun v => (k, v)) ks
def f_kept (A : MH) (d : D) : Option D := (tyQ A d).bind fun t => if t ≠ .dic then some .non else (entD A d).bind fun kvs => (symsQ A (kvs.map (·.1))).bind fun b => if b = false then some .non else match d with
  | .dic ps => if ps.length < 64 then (mapO (fun p : Key × D => (getA ps p.1).bind (posQ A)) ps).bind fun bs => if bs.all id = false then some .non else (keptK ps).map fun kvs => .dic (mergeA [] kvs) else none
  | _ => none
theorem pos_whole {A : MH} {v : D} {b : Bool} (h : posQ A v = some b) {Q : KQ} (q : Q (.bl b) A) : okQ (f_whole A v) fun d => match d with | .bl true => qGtI v (.int 0) A Q | .bl false => Q (.bl false) A | _ => False := by
  unfold f_whole whlQ
  cases e : tyQ A v with
  | none =>
    exfalso
    unfold posQ at h
    split at h
    · cases e
    · rw [e] at h; cases h
  | some t =>
    rw [Option.map_some, Option.map_some, okQ_some]
    by_cases n : t = .int
    · subst n
      obtain ⟨i, rfl⟩ := tyQ_int e
      cases h
      exact q
    · rw [decide_eq_false n]
      unfold posQ at h
      split at h
      · cases e; exact absurd rfl n
      · rw [e] at h; cases h; exact q
theorem d_kept_counts (Z : Nv K mg) : Def P w K mg base 4 "kept_counts" (defArgs s_kept_counts) ["thing"] (r1 f_kept) := mkDef Z.f_kept_counts (fun f fd F => by
  have S := sc_kept_counts
  refine def_ok F S r1_len fun cdv A outer s H E tb hr => ?_
  have G_is_whole := d_is_whole (P := P) (w := w) (base := base) Z
  have HR_is_whole := hr.mono (show 1 ≤ 3 by decide)
  have G_are_symbols := d_are_symbols (P := P) (w := w) (base := base) Z
  have HR_are_symbols := hr
  refine ⟨_, (psq_cons (psq_if ((pwq_or (ptq_not (ptq_val (pq_ist1 .dic (qv 0) (pq_ty Z.b_dict) Z.b_isinstance))) (pwq_or1 (ptq_not (ptq_val (pq_fn G_are_symbols HR_are_symbols (paq_cons (pq_bt (cq_list false rfl) Z.b_list (paq_cons (qv 0) paq_nil)) paq_nil))))))).pt (psq_one (psq_ret pq_non)) psq_nil) (psq_cons (psq_if (ptq_not (ptq_val (pq_bi (cq_all rfl) Z.b_all (paq_cons (pq_lc false rfl S.nd (piq_it (qv 0)) (blkOk_by (N := ["thing", "one"]) (sc := defScope s_kept_counts) (own := [("one", 1)]) (by decide +kernel)) (fun _ _ _ _ _ => (gq_nm 1 S.nd)) (fun _ _ _ _ _ => qts_nil) (fun _ _ _ _ _ => (pq_and (pq_fn G_is_whole HR_is_whole (paq_cons (pq_dget (hu_of hr) (qv 0) (qv 1) (fun _ _ => rfl)) paq_nil)) (pq_one (pq_gtI (pq_dget (hu_of hr) (qv 0) (qv 1) (fun _ _ => rfl)) pq_int))))) paq_nil)))) (psq_one (psq_ret pq_non)) psq_nil) (psq_one (psq_ret (pq_fzD (pq_dcK rfl S.nd (piq_it (pq_bi (cq_sorted false rfl) Z.b_sorted (paq_cons (qv 0) paq_nil))) (blkOk_by (N := ["thing", "one"]) (sc := defScope s_kept_counts) (own := [("one", 1)]) (by decide +kernel)) ⟨fun _ _ _ _ _ => (gq_nm 1 S.nd), fun _ _ _ _ _ => qts_nil, fun _ _ _ _ _ => (pq_dget (hu_of hr) (qv 0) (qv 1) (fun _ _ => rfl))⟩ (fun _ _ _ _ _ => (qv 1)))))))), ?_⟩
  rintro ds A P ⟨d, rfl, h⟩
  rw [show startQ ["thing", "one"] [d] = [some (d), none] from rfl]
  walk_at "rd"
  unfold f_kept at h
  cases e1 : tyQ A d with
  | none => rw [e1] at h; exact h.elim
  | some t =>
    rw [e1, Option.bind_some] at h
    rw [okQ_some]
    by_cases ht : t = .dic
    · subst ht
      rw [if_neg (by simp)] at h
      rw [if_neg (by decide)]
      cases e2 : entD A d with
      | none => rw [e2] at h; exact h.elim
      | some kvs =>
        rw [e2, Option.bind_some] at h
        refine rList_ent e2 ?_
        cases e4 : symsQ A (kvs.map (·.1)) with
        | none => rw [e4] at h; exact h.elim
        | some b =>
          rw [e4, Option.bind_some] at h
          show okQ ((symsQ A (kvs.map (·.1))).map D.bl) _
          rw [e4, Option.map_some, okQ_some]
          show (if (!b) = true then _ else _)
          cases b with
          | false => exact h
          | true =>
            rw [if_neg (by decide)]
            rw [if_neg (by decide)] at h
            split at h
            case h_2 => exact h.elim
            rename_i ps
            split at h
            case isFalse => exact h.elim
            rename_i hl
            cases e5 : mapO (fun p : Key × D => (getA ps p.1).bind (posQ A)) ps with
            | none => rw [e5] at h; exact h.elim
            | some bs =>
              rw [e5, Option.bind_some] at h
              show compL _ _ _ _ (keysD ps) [] A _
              refine compL_map (fun k => (keyD k).bind fun k => (getA ps k).bind fun v => (posQ A v).map D.bl) (keysD ps) [] (by unfold keysD; rw [List.length_map]; simp; omega) (fun y _ Q hQ => ?_) ?_
              · show okQ (some [some (D.dic ps), some y]) _
                walk_at "rd"
                cases e6 : keyD y with
                | none => rw [e6] at hQ; exact hQ.elim
                | some k =>
                  rw [e6, Option.bind_some] at hQ
                  cases e7 : getA ps k with
                  | none => rw [e7] at hQ; exact hQ.elim
                  | some v =>
                    rw [e7, Option.bind_some] at hQ
                    cases e8 : posQ A v with
                    | none => rw [e8] at hQ; exact hQ.elim
                    | some b =>
                      rw [e8] at hQ
                      simp only [okQ_some, e7]
                      exact pos_whole e8 hQ
              · have e9 : mapO (fun k => (keyD k).bind fun k => (getA ps k).bind fun v => (posQ A v).map D.bl) (keysD ps) = some (bs.map D.bl) := by
                  unfold keysD
                  rw [mapO_of_map]
                  refine mapO_comp D.bl e5 fun p _ b e => ?_
                  rw [keyD_k, Option.bind_some]
                  cases e6 : getA ps p.1 with
                  | none => rw [e6] at e; cases e
                  | some v => rw [e6, Option.bind_some] at e; rw [Option.bind_some, e]; rfl
                refine okQ_mk e9 ?_
                rw [show (some ([] ++ bs.map D.bl)).bind blsD = some bs from blsD_map bs, okQ_some]
                cases hb : bs.all id with
                | false => rw [if_pos hb] at h; exact h
                | true =>
                  rw [if_neg (by rw [hb]; decide)] at h
                  rw [if_neg (by decide)]
                  cases e10 : keptK ps with
                  | none => rw [e10] at h; exact h.elim
                  | some kvs2 =>
                    rw [e10] at h
                    unfold keptK at e10
                    cases e11 : sortKeys ps with
                    | none => rw [e11] at e10; cases e10
                    | some ks =>
                      rw [e11, Option.bind_some] at e10
                      refine rSort_dic e11 hl ?_
                      show compF _ _ _ _ _ (ks.map kD) [] A _
                      refine compF_map keyD (fun x => (keyD x).bind (getA ps)) (ks.map kD) [] (by rw [List.length_map, sortKeys_len e11]; simp; omega) (fun y _ Q hQ => ?_) ?_
                      · show okQ (some [some (D.dic ps), some y]) _
                        walk_at "rd"
                        cases e6 : keyD y with
                        | none => rw [e6] at hQ; exact hQ.elim
                        | some k =>
                          rw [e6, Option.bind_some] at hQ
                          cases e7 : getA ps k with
                          | none => rw [e7] at hQ; exact hQ.elim
                          | some v =>
                            rw [e7] at hQ
                            simp only [okQ_some, e7]
                            exact hQ
                      · have e12 : mapO (fun x => pair2 (keyD x) ((keyD x).bind (getA ps))) (ks.map kD) = some kvs2 := by
                          rw [mapO_of_map, ← e10]
                          refine mapO_congr fun k _ => ?_
                          rw [keyD_k, Option.bind_some]
                          cases getA ps k <;> rfl
                        refine okQ_mk e12 ?_
                        exact qFzD_new (m := fun _ _ _ => False) (s := []) h
    · rw [if_pos ht] at h
      rw [if_pos (by cases t <;> first | exact absurd rfl ht | decide)]
      exact h) (fun _ _ _ _ _ _ us hl => match us, hl with | [_], _ => rfl)
def r_need (C : Addr) : RXQ := fun ds A P x2 => ∃ d, ds = [d] ∧ okQ (f_kept A d) fun z => if isN z = true then x2 C [("counts", d)] A else P z A
theorem d_need_counts (Z : Nv K mg) {C : Addr} (E_BadCounts : ErrC P w K mg base 1 "BadCounts" C "counts") : DefX P w K mg base 5 "need_counts" (defArgs s_need_counts) ["counts"] (r_need C) := mkDefX Z.f_need_counts (fun f fd F => by
  have S := sc_need_counts
  refine def_okX F S (by rintro ds A P x2 ⟨d, rfl, _⟩; rfl) fun cdv A outer s H E tb x2 hr => ?_
  have G_kept_counts := d_kept_counts (P := P) (w := w) (base := base) Z
  have HR_kept_counts := hr
  have HR_BadCounts := hr.mono (show 2 ≤ 4 by decide)
  refine ⟨_, (psq_cons (psq_set (i := 1) S.nd (pq_fn G_kept_counts HR_kept_counts (paq_cons (qv 0) paq_nil))) (psq_cons (psq_if (ptq_isN (qv 1) pq_non) (psq_one (psq_raise E_BadCounts rfl HR_BadCounts pass_cx (qv 0))) psq_nil) (psq_one (psq_ret (qv 1))))), ?_⟩
  rintro ds A P ⟨d, rfl, h⟩
  rw [show startQ ["counts", "kept"] [d] = [some (d), none] from rfl]
  walk_at "rd"
  exact h) (fun _ _ _ _ _ _ us hl => match us, hl with | [_], _ => rfl)
end
end K68


set_option Elab.async false
set_option linter.all false
set_option maxRecDepth 100000
set_option maxHeartbeats 4000000
namespace K68
open PySem L2 Qd
local macro_rules | `(tactic| walk_at "rd") => `(tactic| simp only [qVar_z, qVar_s, qC, qSeq, qNext, qRet, qRetN, qIfS, qTest, qIs, qOp, qUn, qAnd, qOr, qNot, qAndV, qOrV, qNotV, qCB, qCons, qNil, okQ_some, okQ_none, qIf, qChain, qI, qIC, r1_rd, r2_rd, Qd.rLen, qLc, qIt, rAllQ, rAnyQ, rSumQ, rMinQ, rMaxQ, rAbsQ, rIntQ, newL_f, newL_t, Bool.false_eq_true, if_false, qInS, qEq, qNe, qIsN, qNotN, qDrop, if_true, qDcB, qFill, kkB, qDGet, kkK, qDcK, qFzD, qAsg, tset_nm, tset_tp, tsets_nil, tsets_nm, tsets_tp, wipe_nil, wipe_cons, List.set_cons_zero, List.set_cons_succ, qRaise, qFor, qRng1, qRng2, qTup, qLst, qPar, eqD_int, eqD_str, eqD_bl, itD_lst, itD_tup, itD_dic, lenD_lst, lenD_tup, lenD_dic, dicD_dic, lstD_lst, seqD_lst, seqD_tup, qSl, qoNone, qoSome, qRevL, qLrg1, qLrg2, qCX, qKw, qKwX, List.length_cons, List.length_nil, List.map_cons, List.map_nil, qAsgG, gTupQ, gConsQ, gSubT, gNilQ, qTGet, qDcT, kkT, qNewT, qNewK, List.length_map, Int.toNat_natCast, ditD_mut, qIx_tup, qIx_lst, keysT_2, Bool.or_true, Bool.true_or, Int.zero_add, isN_tup, isN_lst, isN_int, isN_dic, isN_non, at_zero, qMeth, qAddL, qMulL, rTupQ, qCBw, qLX, qLKw, qMet, pick_0, pick_10, qFz, qFzN, qDispF, qNewF, qDictF, qpCons, qpNil, qDispB, qDispT, keyPs, obD, qEqV, gSubQ, qNegI, at4_0, at4_1, at4_2, at4_3, ix4_1, ix4_2, ix4_3])
local macro_rules | `(tactic| walk_at "rs") => `(tactic| simp only [qVar_z, qVar_s, qC, qNext, qRet, qRetN, qIfS, qTest, qIs, qOp, qUn, qAnd, qOr, qNot, qAndV, qOrV, qNotV, qCB, qCons, qNil, okQ_some, okQ_none, qIf, qChain, qI, qIC, r1_rd, r2_rd, Qd.rLen, qLc, qIt, rAllQ, rAnyQ, rSumQ, rMinQ, rMaxQ, rAbsQ, rIntQ, newL_f, newL_t, Bool.false_eq_true, if_false, qInS, qEq, qNe, qIsN, qNotN, qDrop, if_true, qDcB, qFill, kkB, qDGet, kkK, qDcK, qFzD, qAsg, tset_nm, tset_tp, tsets_nil, tsets_nm, tsets_tp, wipe_nil, wipe_cons, List.set_cons_zero, List.set_cons_succ, qRaise, qFor, qRng1, qRng2, qTup, qLst, qPar, eqD_int, eqD_str, eqD_bl, itD_lst, itD_tup, itD_dic, lenD_lst, lenD_tup, lenD_dic, dicD_dic, lstD_lst, seqD_lst, seqD_tup, qSl, qoNone, qoSome, qRevL, qLrg1, qLrg2, qCX, qKw, qKwX, List.length_cons, List.length_nil, List.map_cons, List.map_nil, qAsgG, gTupQ, gConsQ, gSubT, gNilQ, qTGet, qDcT, kkT, qNewT, qNewK, List.length_map, Int.toNat_natCast, ditD_mut, qIx_tup, qIx_lst, keysT_2, Bool.or_true, Bool.true_or, Int.zero_add, isN_tup, isN_lst, isN_int, isN_dic, isN_non, at_zero, qMeth, qAddL, qMulL, rTupQ, qCBw, qLX, qLKw, qMet, pick_0, pick_10, qFz, qFzN, qDispF, qNewF, qDictF, qpCons, qpNil, qDispB, qDispT, keyPs, obD, qEqV, gSubQ, qNegI, at4_0, at4_1, at4_2, at4_3, ix4_1, ix4_2, ix4_3])
section
variable {P : Program} {w : World} {K : PySem.W.Frag} {mg : Str → Option Value} {base : Heap}
def r_shares : RNQ := fun ds A P => ∃ ns : List Int, ds = [.lst (ns.map .int)] ∧ ns.length ≤ 64 ∧ ∀ a b kvs cvs, A a = none → b ≠ a → A b = none → (∀ f l : Nat, f ≤ l → l < ns.length → getA kvs [.inl (f : Int), .inl (l : Int)] = some (.int (cst ns f l))) → P (.tup [.mut a, .mut b]) ((A.set a (.dit kvs)).set b (.dit cvs))
def Full (ns : List Int) (kvs : List (List Key × D)) (k : Nat) : Prop := ∀ f l : Nat, f ≤ l → l < ns.length → l - f < k → getA kvs [.inl (f : Int), .inl (l : Int)] = some (.int (cst ns f l))
def dkey : D → Option (List Key)
  | .int i => some [.inl i, .inl i]
  | _ => none
theorem d_shares_by (Z : Nv K mg) : Def P w K mg base 1 "shares_by" (defArgs s_shares_by) ["numbers"] r_shares := mkDef Z.f_shares_by (fun f fd F => by
  have S := sc_shares_by
  refine def_okS F S (by rintro ds A P ⟨ns, rfl, _⟩; rfl) fun cdv A outer s H E tb hr => ?_
  refine ⟨_, (psq_cons (psq_set (i := 1) S.nd (pq_bi cq_len Z.b_len (paq_cons (qv 0) paq_nil))) (psq_cons (psq_par (i := 2) (j := 3) rfl S.nd (by decide) (paq_cons (pq_dcT (hu_of hr) rfl S.nd (piq_rng1 Z.b_range (paq_cons (qv 1) paq_nil)) (blkOk_by (N := ["numbers", "many", "costs", "cuts", "at", "size", "first", "last", "whole", "best", "cut", "cost"]) (sc := defScope s_shares_by) (own := [("at", 4)]) (by decide +kernel)) ⟨fun _ _ _ _ _ => (gq_nm 4 S.nd), fun _ _ _ _ _ => qts_nil, fun _ _ _ _ _ => pq_int⟩ (fun _ _ _ _ _ => (paq_cons (qv 4) (paq_cons (qv 4) paq_nil)))) (paq_cons pq_newT paq_nil))) (psq_cons (psq_for PassesOwn.never rfl (piq_rng2 Z.b_range (paq_cons pq_int (paq_cons (pq_addI (qv 1) pq_int) paq_nil))) (gq_nm 5 S.nd) (psq_one (psq_for PassesOwn.never rfl (piq_rng1 Z.b_range (paq_cons (pq_addI (pq_subI (qv 1) (qv 5)) pq_int) paq_nil)) (gq_nm 6 S.nd) (psq_cons (psq_par (i := 7) (j := 8) rfl S.nd (by decide) (paq_cons (pq_subI (pq_addI (qv 6) (qv 5)) pq_int) (paq_cons (pq_bi (cq_sum rfl) Z.b_sum (paq_cons (pq_slice false (qv 0) (poq_some (qv 6)) (poq_some (pq_addI (qv 6) (qv 5)))) paq_nil)) paq_nil))) (psq_cons (psq_set (i := 9) S.nd pq_non) (psq_cons (psq_for PassesOwn.never rfl (piq_rng2 Z.b_range (paq_cons (qv 6) (paq_cons (qv 7) paq_nil))) (gq_nm 10 S.nd) (psq_cons (psq_set (i := 11) S.nd (pq_addI (pq_addI (qv 8) (pq_tget (hu_of hr) (qv 2) (paq_cons (qv 6) (paq_cons (qv 10) paq_nil)) (fun _ _ => rfl))) (pq_tget (hu_of hr) (qv 2) (paq_cons (pq_addI (qv 10) pq_int) (paq_cons (qv 7) paq_nil)) (fun _ _ => rfl)))) (psq_one (psq_if ((pwq_or (ptq_isN (qv 9) pq_non) (pwq_or1 (ptq_ltI (qv 11) (pq_ix (qv 9) pq_int))))).pt (psq_one (psq_set (i := 9) S.nd (pq_tup (paq_cons (qv 11) (paq_cons (qv 10) paq_nil))))) psq_nil)))) (psq_one (psq_asgG (qv 9) (ptg_tup (n := 2) rfl (ptgs_cons (ptg_subT (hu_of hr) (qv 2) (paq_cons (qv 6) (paq_cons (qv 7) paq_nil))) (ptgs_cons (ptg_subT (hu_of hr) (qv 3) (paq_cons (qv 6) (paq_cons (qv 7) paq_nil))) ptgs_nil))))))))))) (psq_one (psq_ret (pq_tup (paq_cons (qv 2) (paq_cons (qv 3) paq_nil)))))))), ?_⟩
  rintro ds A P ⟨ns, rfl, hn, hP⟩
  rw [show startQ ["numbers", "many", "costs", "cuts", "at", "size", "first", "last", "whole", "best", "cut", "cost"] [D.lst (ns.map D.int)] = [some (D.lst (ns.map D.int)), none, none, none, none, none, none, none, none, none, none, none] from rfl]
  walk_at "rd"
  refine ⟨⟨by omega, by omega⟩, ?_⟩
  refine compF_map dkey (fun _ => some (.int 0)) _ [] (by rw [rngD_len]; simp; omega) (fun y hy Q hQ => ?_) (okQ_mk (z := (List.range ns.length).map fun i : Nat => ([.inl (i : Int), .inl (i : Int)], .int 0)) ?_ ?_)
  · unfold rngD at hy
    obtain ⟨i, _, rfl⟩ := List.mem_map.mp hy
    rw [Int.zero_add] at hQ
    walk_at "rd"
    exact ⟨by decide, hQ⟩
  · unfold rngD
    rw [mapO_of_map]
    have := @mapO_map Nat (List Key × D) Nat (fun i => pair2 (dkey (.int (0 + (i : Int)))) (some (.int 0))) id (fun i => ([.inl (i : Int), .inl (i : Int)], .int 0)) (List.range ns.length) (fun i _ => by rw [Int.zero_add]; rfl)
    rw [List.map_id] at this
    exact this
  intro a ha b hb
  have hba : b ≠ a := fun z => by subst z; rw [MH.set_same] at hb; cases hb
  rw [MH.set_ne hba] at hb
  refine ⟨⟨by omega, by omega⟩, ⟨by omega, by omega⟩, ?_⟩
  refine runL_rng (fun i s' A' => ∃ kvs cvs x5 x6 x7 x8 x9 x10 x11 x12, s' = [some (D.lst (ns.map D.int)), some (.int ns.length), some (.mut a), some (.mut b), x5, x6, x7, x8, x9, x10, x11, x12] ∧ A' = (A.set a (.dit kvs)).set b (.dit cvs) ∧ Full ns kvs (i + 1) ∧ kvs.length ≤ 64 * (i + 1) ∧ cvs.length ≤ 64 * (i + 1)) ?_ ?_ ?_
  · refine ⟨_, _, _, _, _, _, _, _, _, _, rfl, rfl, fun f l h1 h2 h3 => ?_, ?_, Nat.zero_le _⟩
    · have : f = l := by omega
      subst this
      rw [cst_self ns (Nat.le_refl f)]
      refine getA_merge _ [] (fun p hp _ => ?_) (.inl ⟨_, List.mem_map.mpr ⟨f, List.mem_range.mpr h2, rfl⟩, rfl⟩)
      obtain ⟨i, _, rfl⟩ := List.mem_map.mp hp
      rfl
    · have := mergeA_length ((List.range ns.length).map fun i : Nat => (([.inl (i : Int), .inl (i : Int)] : List Key), D.int 0)) []
      rw [List.length_map, List.length_range] at this
      simp at this
      omega
  · rintro i s' A' N hi ⟨kvs, cvs, x5, x6, x7, x8, x9, x10, x11, x12, rfl, rfl, hF, hk, hc⟩ next
    walk_at "rd"
    refine ⟨⟨by omega, by omega⟩, ?_⟩
    refine runL_rng (fun j s' A' => ∃ kvs cvs x5 x7 x8 x9 x10 x11 x12, s' = [some (D.lst (ns.map D.int)), some (.int ns.length), some (.mut a), some (.mut b), x5, some (.int (2 + (i : Int))), x7, x8, x9, x10, x11, x12] ∧ A' = (A.set a (.dit kvs)).set b (.dit cvs) ∧ Full ns kvs (i + 1) ∧ (∀ f, f < j → getA kvs [.inl (f : Int), .inl ((f + i + 1 : Nat) : Int)] = some (.int (cst ns f (f + i + 1)))) ∧ kvs.length ≤ 64 * (i + 1) + j ∧ cvs.length ≤ 64 * (i + 1) + j) ?_ ?_ ?_
    · exact ⟨_, _, _, _, _, _, _, _, _, rfl, rfl, hF, fun f z => absurd z (Nat.not_lt_zero f), hk, hc⟩
    · rintro j s' A' N2 hj ⟨kvs, cvs, x5, x7, x8, x9, x10, x11, x12, rfl, rfl, hF, hG, hk, hc⟩ next2
      walk_at "rd"
      have hin : i + 1 < ns.length := by omega
      have hjn : j + i + 1 < ns.length := by omega
      have e1 : (some (cutD (ns.map .int) (some (j : Int)) (some ((j : Int) + (2 + (i : Int)))))).bind intsD = some ((ns.drop j).take (j + i + 1 + 1 - j)) := by
        rw [show ((j : Int) + (2 + (i : Int))) = ((j + i + 1 + 1 : Nat) : Int) by omega, cut_ints (by omega)]
        exact intsD_map _
      rw [e1, okQ_some]
      refine ⟨⟨by omega, by omega⟩, ⟨by omega, by omega⟩, ?_⟩
      rw [show ((j : Int) + (2 + (i : Int)) - 1 - (j : Int)).toNat = i + 1 by omega, show ((ns.drop j).take (j + i + 1 + 1 - j)).sum = seg ns j (j + i + 1) from rfl, show ((j : Int) + (2 + (i : Int)) - 1) = ((j + i + 1 : Nat) : Int) by omega]
      refine runL_rng (fun c s' A' => ∃ be x11 x12 q, s' = [some (D.lst (ns.map D.int)), some (.int ns.length), some (.mut a), some (.mut b), x5, some (.int (2 + (i : Int))), some (.int j), some (.int ((j + i + 1 : Nat) : Int)), some (.int (seg ns j (j + i + 1))), some be, x11, x12] ∧ be = (if c = 0 then .non else .tup [.int (upto ns j (j + i + 1) c), .int q]) ∧ A' = (A.set a (.dit kvs)).set b (.dit cvs)) ?_ ?_ ?_
      · exact ⟨_, x11, x12, 0, rfl, rfl, rfl⟩
      · rintro c s' A' N3 hc ⟨be, x11, x12, q, rfl, rfl, rfl⟩ next3
        walk_at "rd"
        rw [at2 hba]
        walk_at "rd"
        rw [show ((j : Int) + (c : Int)) = ((j + c : Nat) : Int) by omega, hF j (j + c) (by omega) (by omega) (by omega)]
        walk_at "rd"
        refine ⟨by decide, by decide, ?_⟩
        rw [at2 hba]
        walk_at "rd"
        rw [show (((j + c : Nat) : Int) + 1) = ((j + c + 1 : Nat) : Int) by omega, hF (j + c + 1) (j + i + 1) (by omega) (by omega) (by omega)]
        walk_at "rd"
        rw [show seg ns j (j + i + 1) + cst ns j (j + c) + cst ns (j + c + 1) (j + i + 1) = part ns j (j + i + 1) c from rfl]
        by_cases hc0 : c = 0
        · subst hc0
          rw [if_pos rfl, if_pos (by rfl)]
          refine ⟨by decide, next3 _ _ ⟨_, _, _, ((j + 0 : Nat) : Int), rfl, ?_, rfl⟩⟩
          rw [if_neg (by decide), upto_one]
        · rw [if_neg hc0]
          walk_at "rd"
          show (if decide (part ns j (j + i + 1) c < upto ns j (j + i + 1) c) = true then _ else _)
          have e2 := upto_succ ns j (j + i + 1) (Nat.pos_of_ne_zero hc0)
          by_cases hlt : part ns j (j + i + 1) c < upto ns j (j + i + 1) c
          · rw [if_pos (decide_eq_true hlt)]
            refine ⟨by decide, next3 _ _ ⟨_, _, _, ((j + c : Nat) : Int), rfl, ?_, rfl⟩⟩
            rw [if_neg (by omega), e2, Int.min_eq_right (by omega)]
          · rw [if_neg (by rw [decide_eq_false hlt]; decide)]
            refine next3 _ _ ⟨_, _, _, q, rfl, ?_, rfl⟩
            rw [if_neg (by omega), e2, Int.min_eq_left (by omega)]
      · rintro s' A' ⟨be, x11, x12, q, rfl, rfl, rfl⟩
        rw [if_neg (by omega)]
        walk_at "rd"
        refine ⟨trivial, by decide, ?_⟩
        rw [at2 hba]
        walk_at "rd"
        refine ⟨by omega, by decide, ?_⟩
        rw [set2a hba, MH.set_same]
        walk_at "rd"
        rw [MH.set_set]
        refine ⟨by omega, trivial, next2 _ _ ⟨_, _, _, _, _, _, _, _, _, rfl, rfl, ?_, ?_, ?_, ?_⟩⟩
        · intro f l h1 h2 h3
          rw [getA_putA, if_neg (by intro z; injection z with z1 z2; injection z2 with z2 _; injection z1 with z1; injection z2 with z2; omega)]
          exact hF f l h1 h2 h3
        · intro f hf
          rw [getA_putA]
          by_cases hfj : f = j
          · subst hfj
            rw [if_pos rfl, cst_upto ns (by omega), show f + i + 1 - f = i + 1 by omega]
          · rw [if_neg (by intro z; injection z with z1 z2; injection z1 with z1; omega)]
            exact hG f (by omega)
        · have := putA_length kvs [.inl (j : Int), .inl ((j + i + 1 : Nat) : Int)] (.int (upto ns j (j + i + 1) (i + 1)))
          omega
        · have := putA_length cvs [.inl (j : Int), .inl ((j + i + 1 : Nat) : Int)] (.int q)
          omega
    · rintro s' A' ⟨kvs, cvs, x5, x7, x8, x9, x10, x11, x12, rfl, rfl, hF, hG, hk, hc⟩
      refine next _ _ ⟨_, _, _, _, _, _, _, _, _, _, rfl, rfl, fun f l h1 h2 h3 => ?_, by omega, by omega⟩
      by_cases q : l - f < i + 1
      · exact hF f l h1 h2 q
      · have := hG f (by omega)
        rwa [show f + i + 1 = l by omega] at this
  · rintro s' A' ⟨kvs, cvs, x5, x6, x7, x8, x9, x10, x11, x12, rfl, rfl, hF, hk, hc⟩
    walk_at "rd"
    exact ⟨by decide, _, Shr.refl _, hP a b kvs cvs ha hba hb fun f l h1 h2 => hF f l h1 h2 (by omega)⟩) (fun _ _ _ _ _ _ us hl => match us, hl with | [_], _ => rfl)
end
end K68



set_option Elab.async false
set_option linter.all false
set_option maxRecDepth 100000
set_option maxHeartbeats 4000000
namespace K68
open PySem L2 Qd
local macro_rules | `(tactic| walk_at "rd") => `(tactic| simp only [qVar_z, qVar_s, qC, qSeq, qNext, qRet, qRetN, qIfS, qTest, qIs, qOp, qUn, qAnd, qOr, qNot, qAndV, qOrV, qNotV, qCB, qCons, qNil, okQ_some, okQ_none, qIf, qChain, qI, qIC, r1_rd, r2_rd, Qd.rLen, qLc, qIt, rAllQ, rAnyQ, rSumQ, rMinQ, rMaxQ, rAbsQ, rIntQ, newL_f, newL_t, Bool.false_eq_true, if_false, qInS, qEq, qNe, qIsN, qNotN, qDrop, if_true, qDcB, qFill, kkB, qDGet, kkK, qDcK, qFzD, qAsg, tset_nm, tset_tp, tsets_nil, tsets_nm, tsets_tp, wipe_nil, wipe_cons, List.set_cons_zero, List.set_cons_succ, qRaise, qFor, qRng1, qRng2, qTup, qLst, qPar, eqD_int, eqD_str, eqD_bl, itD_lst, itD_tup, itD_dic, lenD_lst, lenD_tup, lenD_dic, dicD_dic, lstD_lst, seqD_lst, seqD_tup, qSl, qoNone, qoSome, qRevL, qLrg1, qLrg2, qCX, qKw, qKwX, List.length_cons, List.length_nil, List.map_cons, List.map_nil, qAsgG, gTupQ, gConsQ, gSubT, gNilQ, qTGet, qDcT, kkT, qNewT, qNewK, List.length_map, Int.toNat_natCast, ditD_mut, qIx_tup, qIx_lst, keysT_2, Bool.or_true, Bool.true_or, Int.zero_add, isN_tup, isN_lst, isN_int, isN_dic, isN_non, at_zero, qMeth, qAddL, qMulL, rTupQ, qCBw, qLX, qLKw, qMet, pick_0, pick_10, qFz, qFzN, qDispF, qNewF, qDictF, qpCons, qpNil, qDispB, qDispT, keyPs, obD, qEqV, gSubQ, qNegI, at4_0, at4_1, at4_2, at4_3, ix4_1, ix4_2, ix4_3])
local macro_rules | `(tactic| walk_at "rs") => `(tactic| simp only [qVar_z, qVar_s, qC, qNext, qRet, qRetN, qIfS, qTest, qIs, qOp, qUn, qAnd, qOr, qNot, qAndV, qOrV, qNotV, qCB, qCons, qNil, okQ_some, okQ_none, qIf, qChain, qI, qIC, r1_rd, r2_rd, Qd.rLen, qLc, qIt, rAllQ, rAnyQ, rSumQ, rMinQ, rMaxQ, rAbsQ, rIntQ, newL_f, newL_t, Bool.false_eq_true, if_false, qInS, qEq, qNe, qIsN, qNotN, qDrop, if_true, qDcB, qFill, kkB, qDGet, kkK, qDcK, qFzD, qAsg, tset_nm, tset_tp, tsets_nil, tsets_nm, tsets_tp, wipe_nil, wipe_cons, List.set_cons_zero, List.set_cons_succ, qRaise, qFor, qRng1, qRng2, qTup, qLst, qPar, eqD_int, eqD_str, eqD_bl, itD_lst, itD_tup, itD_dic, lenD_lst, lenD_tup, lenD_dic, dicD_dic, lstD_lst, seqD_lst, seqD_tup, qSl, qoNone, qoSome, qRevL, qLrg1, qLrg2, qCX, qKw, qKwX, List.length_cons, List.length_nil, List.map_cons, List.map_nil, qAsgG, gTupQ, gConsQ, gSubT, gNilQ, qTGet, qDcT, kkT, qNewT, qNewK, List.length_map, Int.toNat_natCast, ditD_mut, qIx_tup, qIx_lst, keysT_2, Bool.or_true, Bool.true_or, Int.zero_add, isN_tup, isN_lst, isN_int, isN_dic, isN_non, at_zero, qMeth, qAddL, qMulL, rTupQ, qCBw, qLX, qLKw, qMet, pick_0, pick_10, qFz, qFzN, qDispF, qNewF, qDictF, qpCons, qpNil, qDispB, qDispT, keyPs, obD, qEqV, gSubQ, qNegI, at4_0, at4_1, at4_2, at4_3, ix4_1, ix4_2, ix4_3])
section
variable {P : Program} {w : World} {K : PySem.W.Frag} {mg : Str → Option Value} {base : Heap}
def rowD (ns : List Int) (f : Nat) : D := .lst ((List.range (ns.length - f)).map fun j => .int (cst ns f (f + j)))
def sharesD (ns : List Int) : D := .lst ((List.range ns.length).map (rowD ns))
def Kept (A : MH) (d : D) (kvs : List (Key × D)) (ns : List Int) : Prop := f_kept A d = some (.dic kvs) ∧ mapO (fun p : Key × D => getA kvs p.1) kvs = some (ns.map .int) ∧ ns.length ≤ 64
def r_least (C : Addr) : RXQ := fun ds A P x2 => ∃ d, ds = [d] ∧ ((f_kept A d = some .non ∧ x2 C [("counts", d)] A) ∨ ∃ kvs ns, Kept A d kvs ns ∧ P (sharesD ns) A)
def ofI {α : Type} (f : Int → Option α) : D → Option α
  | .int i => f i
  | _ => none
theorem nums_read {kvs : List (Key × D)} {ns : List Int} (h : mapO (fun p : Key × D => getA kvs p.1) kvs = some (ns.map .int)) : mapO (fun k => (keyD k).bind (getA kvs)) (keysD kvs) = some (ns.map .int) := by
  unfold keysD
  rw [mapO_of_map, ← h]
  exact mapO_congr fun p _ => by rw [keyD_k]; rfl
theorem d_least_shares (Z : Nv K mg) {C : Addr} (E_BadCounts : ErrC P w K mg base 1 "BadCounts" C "counts") : DefX P w K mg base 6 "least_shares" (defArgs s_least_shares) ["counts"] (r_least C) := mkDefX Z.f_least_shares (fun f fd F => by
  have S := sc_least_shares
  refine def_okXS F S (by rintro ds A P x2 ⟨d, rfl, _⟩; rfl) fun cdv A outer s H E tb x2 hr => ?_
  have G_need_counts := d_need_counts (P := P) (w := w) (base := base) Z E_BadCounts
  have HR_need_counts := hr
  have G_shares_by := d_shares_by (P := P) (w := w) (base := base) Z
  have HR_shares_by := hr.mono (show 1 ≤ 5 by decide)
  refine ⟨_, (psq_cons (psq_set (i := 1) S.nd (pq_fnX G_need_counts HR_need_counts pass_own (paq_cons (qv 0) paq_nil))) (psq_cons (psq_set (i := 2) S.nd (pq_ix (pq_fn G_shares_by HR_shares_by (paq_cons (pq_lc false rfl S.nd (piq_it (qv 1)) (blkOk_by (N := ["counts", "kept", "costs", "one", "first", "last"]) (sc := defScope s_least_shares) (own := [("one", 3)]) (by decide +kernel)) (fun _ _ _ _ _ => (gq_nm 3 S.nd)) (fun _ _ _ _ _ => qts_nil) (fun _ _ _ _ _ => (pq_dget (hu_of hr) (qv 1) (qv 3) (fun _ _ => rfl)))) paq_nil)) pq_int)) (psq_one (psq_ret (pq_lc false rfl S.nd (piq_rng1 Z.b_range (paq_cons (pq_bi cq_len Z.b_len (paq_cons (qv 1) paq_nil)) paq_nil)) (blkOk_by (N := ["counts", "kept", "costs", "one", "first", "last"]) (sc := defScope s_least_shares) (own := [("first", 4)]) (by decide +kernel)) (fun _ _ _ _ _ => (gq_nm 4 S.nd)) (fun _ _ _ _ _ => qts_nil) (fun _ _ _ _ _ => (pq_lc false rfl S.nd (piq_rng2 Z.b_range (paq_cons (qv 4) (paq_cons (pq_bi cq_len Z.b_len (paq_cons (qv 1) paq_nil)) paq_nil))) (blkOk_by (N := ["counts", "kept", "costs", "one", "first", "last"]) (own := [("last", 5)]) (blkC_relabel (by decide +kernel))) (fun _ _ _ _ _ => (gq_nm 5 S.nd)) (fun _ _ _ _ _ => qts_nil) (fun _ _ _ _ _ => (pq_tget (hu_of hr) (qv 2) (paq_cons (qv 4) (paq_cons (qv 5) paq_nil)) (fun _ _ => rfl)))))))))), ?_⟩
  rintro ds A P ⟨d, rfl, h⟩
  rw [show startQ ["counts", "kept", "costs", "one", "first", "last"] [d] = [some (d), none, none, none, none, none] from rfl]
  walk_at "rd"
  refine ⟨d, rfl, ?_⟩
  rcases h with ⟨e, hx⟩ | ⟨kvs, ns, ⟨e, hk, hn⟩, hP⟩
  · exact okQ_mk e ⟨A, Shr.refl _, hx⟩
  refine okQ_mk e ?_
  walk_at "rd"
  have hl : kvs.length = ns.length := by
    have := mapO_length hk
    rw [List.length_map] at this
    exact this.symm
  refine compL_map (fun k => (keyD k).bind (getA kvs)) (keysD kvs) [] (by unfold keysD; rw [List.length_map]; simp; omega) (fun y _ Q hQ => ?_) (okQ_mk (nums_read hk) ?_)
  · walk_at "rd"
    cases e6 : keyD y with
    | none => rw [e6] at hQ; exact hQ.elim
    | some k =>
      rw [e6] at hQ
      exact hQ
  · refine ⟨ns, rfl, hn, fun a b kv cv ha hba hb hg => ?_⟩
    walk_at "rd"
    rw [hl]
    refine ⟨⟨by omega, by omega⟩, ?_⟩
    refine compL_map (ofI fun i => some (rowD ns i.toNat)) _ [] (by rw [rngD_len]; simp; omega) (fun y hy Q hQ => ?_) (okQ_mk (z := (List.range ns.length).map (rowD ns)) ?_ ?_)
    · unfold rngD at hy
      obtain ⟨i, hi, rfl⟩ := List.mem_map.mp hy
      have hi := List.mem_range.mp hi
      rw [Int.zero_add] at hQ
      walk_at "rd"
      refine ⟨⟨by omega, by omega⟩, ⟨by omega, by omega⟩, ?_⟩
      rw [hl]
      rw [show ((ns.length : Int) - (i : Int)).toNat = ns.length - i by omega]
      refine compL_map (ofI fun l => some (.int (cst ns i l.toNat))) _ [] (by rw [rngD_len]; simp; omega) (fun z hz Q2 hQ2 => ?_) (okQ_mk (z := (List.range (ns.length - i)).map fun j => D.int (cst ns i (i + j))) ?_ ?_)
      · unfold rngD at hz
        obtain ⟨j, hj, rfl⟩ := List.mem_map.mp hz
        have hj := List.mem_range.mp hj
        walk_at "rd"
        refine ⟨by decide, ?_⟩
        rw [at2 hba]
        walk_at "rd"
        rw [show ((i : Int) + (j : Int)) = ((i + j : Nat) : Int) by omega] at hQ2 ⊢
        rw [hg i (i + j) (by omega) (by omega)]
        exact hQ2
      · unfold rngD
        rw [mapO_of_map]
        have := @mapO_map Nat D Nat (fun j => ofI (fun l => some (D.int (cst ns i l.toNat))) (.int ((i : Int) + (j : Int)))) id (fun j => D.int (cst ns i (i + j))) (List.range (ns.length - i)) (fun j _ => by
          show some (D.int (cst ns i ((i : Int) + (j : Int)).toNat)) = _
          rw [show ((i : Int) + (j : Int)).toNat = i + j by omega])
        rw [List.map_id] at this
        exact this
      · exact hQ
    · unfold rngD
      rw [mapO_of_map]
      have := @mapO_map Nat D Nat (fun j => ofI (fun l => some (rowD ns l.toNat)) (.int ((0 : Int) + (j : Int)))) id (rowD ns) (List.range ns.length) (fun j _ => by
        show some (rowD ns ((0 : Int) + (j : Int)).toNat) = _
        rw [show ((0 : Int) + (j : Int)).toNat = j by omega])
      rw [List.map_id] at this
      exact this
    · exact ⟨A, (Shr.new ha).trans (Shr.new (by rw [MH.set_ne hba]; exact hb)), hP⟩) (fun _ _ _ _ _ _ us hl => match us, hl with | [_], _ => rfl)
end
end K68


set_option Elab.async false
set_option linter.all false
set_option maxRecDepth 100000
set_option maxHeartbeats 4000000
namespace K68
open PySem L2 Qd
local macro_rules | `(tactic| walk_at "rd") => `(tactic| simp only [qVar_z, qVar_s, qC, qSeq, qNext, qRet, qRetN, qIfS, qTest, qIs, qOp, qUn, qAnd, qOr, qNot, qAndV, qOrV, qNotV, qCB, qCons, qNil, okQ_some, okQ_none, qIf, qChain, qI, qIC, r1_rd, r2_rd, Qd.rLen, qLc, qIt, rAllQ, rAnyQ, rSumQ, rMinQ, rMaxQ, rAbsQ, rIntQ, newL_f, newL_t, Bool.false_eq_true, if_false, qInS, qEq, qNe, qIsN, qNotN, qDrop, if_true, qDcB, qFill, kkB, qDGet, kkK, qDcK, qFzD, qAsg, tset_nm, tset_tp, tsets_nil, tsets_nm, tsets_tp, wipe_nil, wipe_cons, List.set_cons_zero, List.set_cons_succ, qRaise, qFor, qRng1, qRng2, qTup, qLst, qPar, eqD_int, eqD_str, eqD_bl, itD_lst, itD_tup, itD_dic, lenD_lst, lenD_tup, lenD_dic, dicD_dic, lstD_lst, seqD_lst, seqD_tup, qSl, qoNone, qoSome, qRevL, qLrg1, qLrg2, qCX, qKw, qKwX, List.length_cons, List.length_nil, List.map_cons, List.map_nil, qAsgG, gTupQ, gConsQ, gSubT, gNilQ, qTGet, qDcT, kkT, qNewT, qNewK, List.length_map, Int.toNat_natCast, ditD_mut, qIx_tup, qIx_lst, keysT_2, Bool.or_true, Bool.true_or, Int.zero_add, isN_tup, isN_lst, isN_int, isN_dic, isN_non, at_zero, qMeth, qAddL, qMulL, rTupQ, qCBw, qLX, qLKw, qMet, pick_0, pick_10, qFz, qFzN, qDispF, qNewF, qDictF, qpCons, qpNil, qDispB, qDispT, keyPs, obD, qEqV, gSubQ, qNegI, at4_0, at4_1, at4_2, at4_3, ix4_1, ix4_2, ix4_3])
local macro_rules | `(tactic| walk_at "rs") => `(tactic| simp only [qVar_z, qVar_s, qC, qNext, qRet, qRetN, qIfS, qTest, qIs, qOp, qUn, qAnd, qOr, qNot, qAndV, qOrV, qNotV, qCB, qCons, qNil, okQ_some, okQ_none, qIf, qChain, qI, qIC, r1_rd, r2_rd, Qd.rLen, qLc, qIt, rAllQ, rAnyQ, rSumQ, rMinQ, rMaxQ, rAbsQ, rIntQ, newL_f, newL_t, Bool.false_eq_true, if_false, qInS, qEq, qNe, qIsN, qNotN, qDrop, if_true, qDcB, qFill, kkB, qDGet, kkK, qDcK, qFzD, qAsg, tset_nm, tset_tp, tsets_nil, tsets_nm, tsets_tp, wipe_nil, wipe_cons, List.set_cons_zero, List.set_cons_succ, qRaise, qFor, qRng1, qRng2, qTup, qLst, qPar, eqD_int, eqD_str, eqD_bl, itD_lst, itD_tup, itD_dic, lenD_lst, lenD_tup, lenD_dic, dicD_dic, lstD_lst, seqD_lst, seqD_tup, qSl, qoNone, qoSome, qRevL, qLrg1, qLrg2, qCX, qKw, qKwX, List.length_cons, List.length_nil, List.map_cons, List.map_nil, qAsgG, gTupQ, gConsQ, gSubT, gNilQ, qTGet, qDcT, kkT, qNewT, qNewK, List.length_map, Int.toNat_natCast, ditD_mut, qIx_tup, qIx_lst, keysT_2, Bool.or_true, Bool.true_or, Int.zero_add, isN_tup, isN_lst, isN_int, isN_dic, isN_non, at_zero, qMeth, qAddL, qMulL, rTupQ, qCBw, qLX, qLKw, qMet, pick_0, pick_10, qFz, qFzN, qDispF, qNewF, qDictF, qpCons, qpNil, qDispB, qDispT, keyPs, obD, qEqV, gSubQ, qNegI, at4_0, at4_1, at4_2, at4_3, ix4_1, ix4_2, ix4_3])
section
variable {P : Program} {w : World} {K : PySem.W.Frag} {mg : Str → Option Value} {base : Heap}
/-! ### rows of shares -/
def RowOk (k : Nat) (d : D) (r : List Int) : Prop := seqF d = some (r.map .int) ∧ r.length = k ∧ (∀ x ∈ r, 0 ≤ x) ∧ r[0]? = some 0
def atR (rows : List (List Int)) (i j : Nat) : Int := (rows.getD i []).getD j 0
def RowsOk (n : Nat) (ds : List D) (rows : List (List Int)) (m : Nat) : Prop := ∀ i, i < m → ∃ d r, ds[i]? = some d ∧ rows[i]? = some r ∧ RowOk (n - i) d r
def LowAt (ns : List Int) (rows : List (List Int)) (f l j : Nat) : Prop := atR rows f (l - f) ≤ seg ns f l + atR rows f j + atR rows (f + j + 1) (l - f - j - 1)
def Low (ns : List Int) (rows : List (List Int)) : Prop := ∀ f l j, f < l → l < ns.length → j < l - f → LowAt ns rows f l j
def Ares (ns : List Int) (t : D) : Prop := ∃ ds rows, seqF t = some ds ∧ ds.length = ns.length ∧ rows.length = ns.length ∧ RowsOk ns.length ds rows ns.length ∧ Low ns rows
theorem map_int_inj {r q : List Int} (h : r.map D.int = q.map D.int) : r = q := by
  have := congrArg intsD h
  rw [intsD_map, intsD_map] at this
  exact Option.some.inj this
theorem RowOk.uniq {k j : Nat} {d : D} {r q : List Int} (h : RowOk k d r) (g : RowOk j d q) : r = q := map_int_inj (Option.some.inj (h.1.symm.trans g.1))
theorem RowsOk.at {n m : Nat} {ds : List D} {rows : List (List Int)} (h : RowsOk n ds rows m) {f j : Nat} (hf : f < m) (hj : j < n - f) {A : MH} {P : KQ} (q : P (.int (atR rows f j)) A) : okQ (L2.atI ds (f : Int)) fun d => qIx d (.int (j : Int)) A P := by
  obtain ⟨d, r, h1, h2, h3, h4, _⟩ := h f hf
  rw [at_nat, h1, okQ_some, seqF_ix h3, at_nat]
  have e : (r.map D.int)[j]? = some (.int (atR rows f j)) := by
    rw [List.getElem?_map]
    have hlt : j < r.length := by omega
    rw [List.getElem?_eq_getElem hlt]
    unfold atR
    simp only [List.getD_eq_getElem?_getD, h2, Option.getD_some, List.getElem?_eq_getElem hlt, Option.map_some]
  rw [e]
  exact q
theorem numQ_pl {A : MH} {d : D} (p : plD d = true) : ∃ b, numQ A d = some b ∧ (b = true ↔ ∃ i : Int, d = .int i ∧ 0 ≤ i) := by
  by_cases h : ∃ i, d = .int i
  · obtain ⟨i, rfl⟩ := h
    exact ⟨_, rfl, by rw [decide_eq_true_eq]; exact ⟨fun h => ⟨i, rfl, h⟩, fun ⟨j, e, h⟩ => by cases e; exact h⟩⟩
  · refine ⟨false, ?_, ⟨fun z => (by cases z), fun ⟨i, e, _⟩ => absurd ⟨i, e⟩ h⟩⟩
    refine numQ_not (pl_ty p) fun z => ?_
    cases d <;> first | exact h ⟨_, rfl⟩ | (cases z; done) | cases p
theorem nums_all {A : MH} : ∀ {xs : List D}, plDs xs = true → ∃ bs : List Bool, mapO (f_number A) xs = some (bs.map .bl) ∧ (bs.all id = true ↔ ∃ r : List Int, xs = r.map .int ∧ ∀ x ∈ r, 0 ≤ x)
  | [], _ => ⟨[], rfl, ⟨fun _ => ⟨[], rfl, fun x h => (by cases h)⟩, fun _ => rfl⟩⟩
  | x :: xs, p => by
    rw [plDs, Bool.and_eq_true] at p
    obtain ⟨b, e1, h1⟩ := numQ_pl (A := A) p.1
    obtain ⟨bs, e2, h2⟩ := nums_all (A := A) p.2
    refine ⟨b :: bs, ?_, ?_⟩
    · unfold mapO f_number
      rw [e1]
      have e3 : mapO (fun d => Option.map D.bl (numQ A d)) xs = some (bs.map .bl) := e2
      simp only [Option.map_some]
      rw [e3]
      rfl
    · rw [List.all_cons, Bool.and_eq_true, h2]
      show b = true ∧ _ ↔ _
      rw [h1]
      constructor
      · rintro ⟨⟨i, rfl, hi⟩, r, rfl, hr⟩
        exact ⟨i :: r, rfl, fun x hx => (List.mem_cons.mp hx).elim (fun e => e ▸ hi) (hr x)⟩
      · rintro ⟨r, e, hr⟩
        cases r with
        | nil => cases e
        | cons i r =>
          injection e with e3 e4
          exact ⟨⟨i, e3, hr i (List.mem_cons_self ..)⟩, r, e4, fun x hx => hr x (List.mem_cons_of_mem _ hx)⟩
def r_are (C : Addr) : RXQ := fun ds A P x2 => ∃ d t, ds = [d, t] ∧ plD t = true ∧ ((f_kept A d = some .non ∧ x2 C [("counts", d)] A) ∨ ∃ kvs ns, Kept A d kvs ns ∧ ∀ b : Bool, (b = true ↔ Ares ns t) → P (.bl b) A)
theorem d_are_shares (Z : Nv K mg) {C : Addr} (E_BadCounts : ErrC P w K mg base 1 "BadCounts" C "counts") : DefX P w K mg base 6 "are_shares" (defArgs s_are_shares) ["counts", "thing"] (r_are C) := mkDefX Z.f_are_shares (fun f fd F => by
  have S := sc_are_shares
  refine def_okXS F S (by rintro ds A P x2 ⟨d, t, rfl, _⟩; rfl) fun cdv A outer s H E tb x2 hr => ?_
  have G_need_counts := d_need_counts (P := P) (w := w) (base := base) Z E_BadCounts
  have HR_need_counts := hr
  have G_is_list := d_is_list (P := P) (w := w) (base := base) Z
  have HR_is_list := hr.mono (show 1 ≤ 5 by decide)
  have G_is_number := d_is_number (P := P) (w := w) (base := base) Z
  have HR_is_number := hr.mono (show 2 ≤ 5 by decide)
  refine ⟨_, (psq_cons (psq_set (i := 2) S.nd (pq_fnX G_need_counts HR_need_counts pass_own (paq_cons (qv 0) paq_nil))) (psq_cons (psq_par (i := 3) (j := 4) rfl S.nd (by decide) (paq_cons (pq_lc false rfl S.nd (piq_it (qv 2)) (blkOk_by (N := ["counts", "thing", "kept", "numbers", "many", "one", "first", "row", "last", "whole", "cut"]) (sc := defScope s_are_shares) (own := [("one", 5)]) (by decide +kernel)) (fun _ _ _ _ _ => (gq_nm 5 S.nd)) (fun _ _ _ _ _ => qts_nil) (fun _ _ _ _ _ => (pq_dget (hu_of hr) (qv 2) (qv 5) (fun _ _ => rfl)))) (paq_cons (pq_bi cq_len Z.b_len (paq_cons (qv 2) paq_nil)) paq_nil))) (psq_cons (psq_if ((pwq_or (ptq_not (ptq_val (pq_fn G_is_list HR_is_list (paq_cons (qv 1) paq_nil)))) (pwq_or1 (ptq_ne hr.units (pq_bi cq_len Z.b_len (paq_cons (qv 1) paq_nil)) (qv 4))))).pt (psq_one (psq_ret pq_bl)) psq_nil) (psq_cons (psq_for (passes_of rfl) rfl (piq_enum Z.b_enumerate (qv 1)) (gq_tp rfl (gqs_cons (gq_nm 6 S.nd) (gqs_cons (gq_nm 7 S.nd) gqs_nil))) (psq_one (psq_if ((pwq_or (ptq_not (ptq_val (pq_fn G_is_list HR_is_list (paq_cons (qv 7) paq_nil)))) (pwq_or (ptq_ne hr.units (pq_bi cq_len Z.b_len (paq_cons (qv 7) paq_nil)) (pq_subI (qv 4) (qv 6))) (pwq_or (ptq_not (ptq_val (pq_bi (cq_all rfl) Z.b_all (paq_cons (pq_lc false rfl S.nd (piq_it (qv 7)) (blkOk_by (N := ["counts", "thing", "kept", "numbers", "many", "one", "first", "row", "last", "whole", "cut"]) (sc := defScope s_are_shares) (own := [("one", 5)]) (by decide +kernel)) (fun _ _ _ _ _ => (gq_nm 5 S.nd)) (fun _ _ _ _ _ => qts_nil) (fun _ _ _ _ _ => (pq_fn G_is_number HR_is_number (paq_cons (qv 5) paq_nil)))) paq_nil)))) (pwq_or1 (ptq_ne hr.units (pq_ix (qv 7) pq_int) pq_int)))))).pt (psq_one (psq_ret pq_bl)) psq_nil))) (psq_cons (psq_for (passes_of rfl) rfl (piq_rng1 Z.b_range (paq_cons (qv 4) paq_nil)) (gq_nm 6 S.nd) (psq_one (psq_for (passes_of rfl) rfl (piq_rng2 Z.b_range (paq_cons (pq_addI (qv 6) pq_int) (paq_cons (qv 4) paq_nil))) (gq_nm 8 S.nd) (psq_cons (psq_set (i := 9) S.nd (pq_bi (cq_sum rfl) Z.b_sum (paq_cons (pq_slice false (qv 3) (poq_some (qv 6)) (poq_some (pq_addI (qv 8) pq_int))) paq_nil))) (psq_one (psq_for (passes_of rfl) rfl (piq_rng2 Z.b_range (paq_cons (qv 6) (paq_cons (qv 8) paq_nil))) (gq_nm 10 S.nd) (psq_one (psq_if (ptq_gtI (pq_ix (pq_ix (qv 1) (qv 6)) (pq_subI (qv 8) (qv 6))) (pq_addI (pq_addI (qv 9) (pq_ix (pq_ix (qv 1) (qv 6)) (pq_subI (qv 10) (qv 6)))) (pq_ix (pq_ix (qv 1) (pq_addI (qv 10) pq_int)) (pq_subI (pq_subI (qv 8) (qv 10)) pq_int)))) (psq_one (psq_ret pq_bl)) psq_nil)))))))) (psq_one (psq_ret pq_bl))))))), ?_⟩
  rintro ds A P ⟨d, t, rfl, pt, h⟩
  rw [show startQ ["counts", "thing", "kept", "numbers", "many", "one", "first", "row", "last", "whole", "cut"] [d, t] = [some (d), some (t), none, none, none, none, none, none, none, none, none] from rfl]
  walk_at "rd"
  refine ⟨d, rfl, ?_⟩
  rcases h with ⟨e, hx⟩ | ⟨kvs, ns, ⟨e, hk, hn⟩, hP⟩
  · exact okQ_mk e ⟨A, Shr.refl _, hx⟩
  have out : ∀ b : Bool, (b = true ↔ Ares ns t) → ∃ A2, Shr A2 A ∧ P (.bl b) A2 := fun b hb => ⟨A, Shr.refl _, hP b hb⟩
  have outF : ¬ Ares ns t → ∃ A2, Shr A2 A ∧ P (.bl false) A2 := fun hb => out false ⟨fun z => (by cases z), fun z => absurd z hb⟩
  refine okQ_mk e ?_
  walk_at "rd"
  have hl : kvs.length = ns.length := by
    have := mapO_length hk
    rw [List.length_map] at this
    exact this.symm
  refine compL_map (fun k => (keyD k).bind (getA kvs)) (keysD kvs) [] (by unfold keysD; rw [List.length_map]; simp; omega) (fun y _ Q hQ => ?_) (okQ_mk (nums_read hk) ?_)
  · walk_at "rd"
    cases e6 : keyD y with
    | none => rw [e6] at hQ; exact hQ.elim
    | some k =>
      rw [e6] at hQ
      exact hQ
  rw [hl]
  unfold f_list lstQ
  rw [pl_ty pt]
  show (if (!(decide (tyF t = .lst) || decide (tyF t = .tup))) = true then _ else _)
  cases es : seqF t with
  | none =>
    have := pl_seq pt
    rw [es] at this
    rw [← this, if_pos (by rfl)]
    exact outF fun ⟨ds, _, z, _⟩ => by rw [es] at z; cases z
  | some ds =>
    have := pl_seq pt
    rw [es] at this
    rw [← this, if_neg (by simp), seqF_len es, okQ_some]
    by_cases hlen : ds.length = ns.length
    case neg =>
      rw [if_pos (by rw [decide_eq_false (by omega)]; rfl)]
      exact outF fun ⟨ds', _, z, h1, _⟩ => by rw [es] at z; cases z; exact hlen h1
    rw [if_neg (by rw [decide_eq_true (by omega)]; decide)]
    refine seqF_enum es (fun _ => rfl) ?_
    have pds := plDs_all.mp (seqF_pl es pt)
    refine runL_ix (fun i s' A' => ∃ x5 x6 x7 rows, s' = [some d, some t, some (.dic kvs), some (.lst (ns.map .int)), some (.int ns.length), x5, x6, x7, none, none, none] ∧ A = A' ∧ rows.length = i ∧ RowsOk ns.length ds rows i) ?_ ?_ ?_
    · exact ⟨_, _, _, [], rfl, rfl, rfl, fun i hi => absurd hi (Nat.not_lt_zero i)⟩
    · rintro i x s' A' N hx ⟨x5, x6, x7, rows, rfl, rfl, hrl, hr⟩ next
      have hi : i < ds.length := by
        have := (List.getElem?_eq_some_iff.mp hx).1
        rwa [numL_length] at this
      obtain ⟨row, hrow⟩ : ∃ row, ds[i]? = some row := ⟨_, List.getElem?_eq_getElem hi⟩
      rw [numL_get hrow] at hx
      cases hx
      have pr : plD row = true := pds row (List.mem_of_getElem? hrow)
      have bad : (∀ r, ¬ RowOk (ns.length - i) row r) → ∃ A2, Shr A2 A ∧ P (.bl false) A2 := fun hb => outF fun ⟨ds', rows', z, _, _, h2, _⟩ => by
        rw [es] at z; cases z
        obtain ⟨d', r', h3, _, h4⟩ := h2 i (by omega)
        rw [hrow] at h3; cases h3
        exact hb r' h4
      walk_at "rd"
      rw [pl_ty pr]
      show (if (!(decide (tyF row = .lst) || decide (tyF row = .tup))) = true then _ else _)
      have hs := pl_seq pr
      cases er : seqF row with
      | none =>
        rw [er] at hs
        rw [← hs, if_pos (by rfl)]
        exact bad fun r z => by have z1 := z.1; rw [er] at z1; cases z1
      | some xs =>
        rw [er] at hs
        rw [← hs, if_neg (by simp), seqF_len er, okQ_some]
        by_cases hxl : xs.length = ns.length - i
        case neg =>
          rw [if_pos (by rw [decide_eq_false (by omega)]; rfl)]
          exact bad fun r z => hxl (by
            have := z.1
            rw [er] at this
            cases this
            rw [List.length_map]; exact z.2.1)
        rw [if_neg (by rw [decide_eq_true (by omega)]; decide), seqF_it er, okQ_some]
        obtain ⟨bs, e1, e2⟩ := nums_all (A := A) (seqF_pl er pr)
        refine compL_map (f_number A) xs [] (by simp; omega) (fun y _ Q hQ => (by show r1 f_number [y] A Q; rw [r1_rd]; exact hQ)) (okQ_mk e1 ?_)
        rw [show (some ([] ++ bs.map D.bl)).bind blsD = some bs from blsD_map bs, okQ_some]
        cases eb : bs.all id with
        | false =>
          rw [if_pos (by rfl)]
          exact bad fun r z => by
            have z1 := z.1
            rw [er] at z1
            have := e2.mpr ⟨r, Option.some.inj z1, z.2.2.1⟩
            rw [eb] at this; cases this
        | true =>
          rw [if_neg (by decide)]
          obtain ⟨r, rfl, hr0⟩ := e2.mp eb
          rw [List.length_map] at hxl
          rw [seqF_ix er]
          cases r with
          | nil => simp at hxl; omega
          | cons r0 rs =>
            rw [List.map_cons, at_zero]
            walk_at "rd"
            by_cases hz : r0 = 0
            · subst hz
              rw [if_neg (by decide)]
              refine next _ _ ⟨_, _, _, rows ++ [0 :: rs], rfl, rfl, by rw [List.length_append, hrl]; rfl, fun q hq => ?_⟩
              by_cases hqi : q = i
              · subst hqi
                exact ⟨row, 0 :: rs, hrow, by rw [← hrl, List.getElem?_append_right (Nat.le_refl _), Nat.sub_self]; rfl, er, hxl, hr0, rfl⟩
              · obtain ⟨d', r', h1, h2, h3⟩ := hr q (by omega)
                exact ⟨d', r', h1, by rw [List.getElem?_append_left (by omega)]; exact h2, h3⟩
            · rw [if_pos (by rw [decide_eq_false hz]; rfl)]
              exact bad fun r z => by
                have z1 := z.1
                rw [er] at z1
                have := map_int_inj (Option.some.inj z1)
                subst this
                have z2 := z.2.2.2
                simp at z2
                exact hz z2
    · rintro s' A' ⟨x5, x6, x7, rows, rfl, rfl, hrl, hr⟩
      rw [numL_length, hlen] at hrl hr
      have low_iff : Ares ns t ↔ Low ns rows := by
        constructor
        · rintro ⟨ds', rows', z, _, h2, h3, h4⟩
          rw [es] at z; cases z
          have : rows' = rows := by
            refine List.ext_getElem? fun i => ?_
            by_cases hi : i < ns.length
            · obtain ⟨d1, r1, a1, a2, a3⟩ := h3 i hi
              obtain ⟨d2, r2, b1, b2, b3⟩ := hr i hi
              rw [a1] at b1; cases b1
              rw [a2, b2, a3.uniq b3]
            · rw [List.getElem?_eq_none (by omega), List.getElem?_eq_none (by omega)]
          exact this ▸ h4
        · exact fun hL => ⟨ds, rows, es, hlen, hrl, hr, hL⟩
      walk_at "rd"
      refine ⟨⟨by omega, by omega⟩, ?_⟩
      refine runL_rng (fun f s' A' => ∃ x6 x7 x8 x9 x10, s' = [some d, some t, some (.dic kvs), some (.lst (ns.map .int)), some (.int ns.length), x5, x6, x7, x8, x9, x10] ∧ A = A' ∧ ∀ f' l j, f' < f → f' < l → l < ns.length → j < l - f' → LowAt ns rows f' l j) ?_ ?_ ?_
      · exact ⟨_, _, _, _, _, rfl, rfl, fun f' _ _ z => absurd z (Nat.not_lt_zero f')⟩
      · rintro f s' A' N hf ⟨x6, x7, x8, x9, x10, rfl, rfl, hL⟩ next
        walk_at "rd"
        refine ⟨⟨by omega, by omega⟩, ⟨by omega, by omega⟩, ?_⟩
        rw [show ((ns.length : Int) - ((f : Int) + 1)).toNat = ns.length - (f + 1) by omega]
        refine runL_rng (fun m s' A' => ∃ x7 x8 x9 x10, s' = [some d, some t, some (.dic kvs), some (.lst (ns.map .int)), some (.int ns.length), x5, some (.int f), x7, x8, x9, x10] ∧ A = A' ∧ ∀ l j, f < l → l < f + 1 + m → j < l - f → LowAt ns rows f l j) ?_ ?_ ?_
        · exact ⟨_, _, _, _, rfl, rfl, fun l j h1 h2 => absurd h2 (by omega)⟩
        · rintro m s' A' N2 hm ⟨x7, x8, x9, x10, rfl, rfl, hL2⟩ next2
          walk_at "rd"
          rw [show ((f : Int) + 1 + (m : Int)) = ((f + 1 + m : Nat) : Int) by omega, show (((f + 1 + m : Nat) : Int) + 1) = ((f + 1 + m + 1 : Nat) : Int) by omega, cut_ints (by omega)]
          show okQ (intsD _) _
          rw [intsD_map, okQ_some]
          refine ⟨⟨by omega, by omega⟩, ⟨by omega, by omega⟩, ?_⟩
          rw [show (((f + 1 + m : Nat) : Int) - (f : Int)).toNat = m + 1 by omega, show ((ns.drop f).take (f + 1 + m + 1 - f)).sum = seg ns f (f + 1 + m) from rfl]
          refine runL_rng (fun j s' A' => ∃ x10, s' = [some d, some t, some (.dic kvs), some (.lst (ns.map .int)), some (.int ns.length), x5, some (.int f), x7, some (.int ((f + 1 + m : Nat) : Int)), some (.int (seg ns f (f + 1 + m))), x10] ∧ A = A' ∧ ∀ j', j' < j → LowAt ns rows f (f + 1 + m) j') ?_ ?_ ?_
          · exact ⟨_, rfl, rfl, fun j' z => absurd z (Nat.not_lt_zero j')⟩
          · rintro j s' A' N3 hj ⟨x10, rfl, rfl, hL3⟩ next3
            walk_at "rd"
            rw [seqF_ix es, show (((f + 1 + m : Nat) : Int) - (f : Int)) = ((m + 1 : Nat) : Int) by omega, show ((f : Int) + (j : Int) - (f : Int)) = (j : Int) by omega, show ((f : Int) + (j : Int) + 1) = ((f + j + 1 : Nat) : Int) by omega, show (((f + 1 + m : Nat) : Int) - ((f : Int) + (j : Int)) - 1) = ((m - j : Nat) : Int) by omega]
            refine hr.at (by omega) (by omega) ?_
            rw [seqF_ix es]
            refine hr.at (by omega) (by omega) ?_
            walk_at "rd"
            rw [seqF_ix es]
            refine hr.at (by omega) (by omega) ?_
            walk_at "rd"
            by_cases hlow : LowAt ns rows f (f + 1 + m) j
            · have hlow' := hlow
              unfold LowAt at hlow'
              rw [show f + 1 + m - f = m + 1 by omega, show m + 1 - j - 1 = m - j by omega] at hlow'
              rw [if_neg (by rw [decide_eq_false (by omega)]; decide)]
              refine next3 _ _ ⟨_, rfl, rfl, fun j' hj' => ?_⟩
              by_cases hjj : j' = j
              · subst hjj; exact hlow
              · exact hL3 j' (by omega)
            · have hlow' := hlow
              unfold LowAt at hlow'
              rw [show f + 1 + m - f = m + 1 by omega, show m + 1 - j - 1 = m - j by omega] at hlow'
              rw [if_pos (decide_eq_true (by omega))]
              exact outF fun z => hlow (low_iff.mp z f (f + 1 + m) j (by omega) (by omega) (by omega))
          · rintro s' A' ⟨x10, rfl, rfl, hL3⟩
            refine next2 _ _ ⟨_, _, _, _, rfl, rfl, fun l j h1 h2 h3 => ?_⟩
            by_cases hlm : l = f + 1 + m
            · subst hlm
              exact hL3 j (by omega)
            · exact hL2 l j h1 (by omega) h3
        · rintro s' A' ⟨x7, x8, x9, x10, rfl, rfl, hL2⟩
          refine next _ _ ⟨_, _, _, _, _, rfl, rfl, fun f' l j h1 h2 h3 h4 => ?_⟩
          by_cases hff : f' = f
          · subst hff
            exact hL2 l j h2 (by omega) h4
          · exact hL f' l j (by omega) h2 h3 h4
      · rintro s' A' ⟨x6, x7, x8, x9, x10, rfl, rfl, hL⟩
        walk_at "rd"
        exact out true ⟨fun _ => low_iff.mpr fun f l j h1 h2 h3 => hL f l j (by omega) h1 h2 h3, fun _ => rfl⟩) (fun _ _ _ _ _ _ us hl => match us, hl with | [_, _], _ => rfl)
end
end K68


set_option Elab.async false
set_option linter.all false
set_option maxRecDepth 100000
set_option maxHeartbeats 4000000
namespace K68
open PySem L2 Qd
local macro_rules | `(tactic| walk_at "rd") => `(tactic| simp only [qVar_z, qVar_s, qC, qSeq, qNext, qRet, qRetN, qIfS, qTest, qIs, qOp, qUn, qAnd, qOr, qNot, qAndV, qOrV, qNotV, qCB, qCons, qNil, okQ_some, okQ_none, qIf, qChain, qI, qIC, r1_rd, r2_rd, Qd.rLen, qLc, qIt, rAllQ, rAnyQ, rSumQ, rMinQ, rMaxQ, rAbsQ, rIntQ, newL_f, newL_t, Bool.false_eq_true, if_false, qInS, qEq, qNe, qIsN, qNotN, qDrop, if_true, qDcB, qFill, kkB, qDGet, kkK, qDcK, qFzD, qAsg, tset_nm, tset_tp, tsets_nil, tsets_nm, tsets_tp, wipe_nil, wipe_cons, List.set_cons_zero, List.set_cons_succ, qRaise, qFor, qRng1, qRng2, qTup, qLst, qPar, eqD_int, eqD_str, eqD_bl, itD_lst, itD_tup, itD_dic, lenD_lst, lenD_tup, lenD_dic, dicD_dic, lstD_lst, seqD_lst, seqD_tup, qSl, qoNone, qoSome, qRevL, qLrg1, qLrg2, qCX, qKw, qKwX, List.length_cons, List.length_nil, List.map_cons, List.map_nil, qAsgG, gTupQ, gConsQ, gSubT, gNilQ, qTGet, qDcT, kkT, qNewT, qNewK, List.length_map, Int.toNat_natCast, ditD_mut, qIx_tup, qIx_lst, keysT_2, Bool.or_true, Bool.true_or, Int.zero_add, isN_tup, isN_lst, isN_int, isN_dic, isN_non, at_zero, qMeth, qAddL, qMulL, rTupQ, qCBw, qLX, qLKw, qMet, pick_0, pick_10, qFz, qFzN, qDispF, qNewF, qDictF, qpCons, qpNil, qDispB, qDispT, keyPs, obD, qEqV, gSubQ, qNegI, at4_0, at4_1, at4_2, at4_3, ix4_1, ix4_2, ix4_3])
local macro_rules | `(tactic| walk_at "rs") => `(tactic| simp only [qVar_z, qVar_s, qC, qNext, qRet, qRetN, qIfS, qTest, qIs, qOp, qUn, qAnd, qOr, qNot, qAndV, qOrV, qNotV, qCB, qCons, qNil, okQ_some, okQ_none, qIf, qChain, qI, qIC, r1_rd, r2_rd, Qd.rLen, qLc, qIt, rAllQ, rAnyQ, rSumQ, rMinQ, rMaxQ, rAbsQ, rIntQ, newL_f, newL_t, Bool.false_eq_true, if_false, qInS, qEq, qNe, qIsN, qNotN, qDrop, if_true, qDcB, qFill, kkB, qDGet, kkK, qDcK, qFzD, qAsg, tset_nm, tset_tp, tsets_nil, tsets_nm, tsets_tp, wipe_nil, wipe_cons, List.set_cons_zero, List.set_cons_succ, qRaise, qFor, qRng1, qRng2, qTup, qLst, qPar, eqD_int, eqD_str, eqD_bl, itD_lst, itD_tup, itD_dic, lenD_lst, lenD_tup, lenD_dic, dicD_dic, lstD_lst, seqD_lst, seqD_tup, qSl, qoNone, qoSome, qRevL, qLrg1, qLrg2, qCX, qKw, qKwX, List.length_cons, List.length_nil, List.map_cons, List.map_nil, qAsgG, gTupQ, gConsQ, gSubT, gNilQ, qTGet, qDcT, kkT, qNewT, qNewK, List.length_map, Int.toNat_natCast, ditD_mut, qIx_tup, qIx_lst, keysT_2, Bool.or_true, Bool.true_or, Int.zero_add, isN_tup, isN_lst, isN_int, isN_dic, isN_non, at_zero, qMeth, qAddL, qMulL, rTupQ, qCBw, qLX, qLKw, qMet, pick_0, pick_10, qFz, qFzN, qDispF, qNewF, qDictF, qpCons, qpNil, qDispB, qDispT, keyPs, obD, qEqV, gSubQ, qNegI, at4_0, at4_1, at4_2, at4_3, ix4_1, ix4_2, ix4_3])
section
variable {P : Program} {w : World} {K : PySem.W.Frag} {mg : Str → Option Value} {base : Heap}
/-- a stream of draws: its cells, the cell at hand, how many draws were made, the mixing -/
def Strm (A : MH) (a b : Addr) (n : Nat) : Prop := ∃ (cs : List Int) (x y z : Int), a ≠ b ∧ A a = some (.lst [.mut b, .int x, .int y, .int z]) ∧ A b = some (.lst (cs.map .int)) ∧ cs.length ≤ 63 ∧ 0 ≤ y ∧ y ≤ (n : Int) ∧ 0 ≤ z ∧ z < 2147483647
/-- from one stream to another: nothing else changes -/
def Off (a b : Addr) (A A' : MH) : Prop := ∀ x, x ≠ a → x ≠ b → A' x = A x
def r_stream : RNQ := fun ds A P => ∃ ns : List Int, ds = [.frl (ns.map .int)] ∧ ns.length ≤ 63 ∧ ∀ a b A', A a = none → A b = none → Strm A' a b 0 → Off a b A A' → P (.mut a) A'
theorem d__law_stream (Z : Nv K mg) : Def P w K mg base 1 "_law_stream" (defArgs s__law_stream) ["script"] r_stream := mkDef Z.f__law_stream (fun f fd F => by
  have S := sc__law_stream
  refine def_okS F S (by rintro ds A P ⟨ns, rfl, _⟩; rfl) fun cdv A outer s H E tb hr => ?_
  refine ⟨_, (psq_one (psq_ret (pq_lst true (paq_cons (pq_bt (cq_list true rfl) Z.b_list (paq_cons (qv 0) paq_nil)) (paq_cons pq_int (paq_cons pq_int (paq_cons pq_int paq_nil))))))), ?_⟩
  rintro ds A P ⟨ns, rfl, hn, h⟩
  rw [show startQ ["script"] [D.frl (ns.map D.int)] = [some (D.frl (ns.map D.int))] from rfl]
  walk_at "rd"
  refine rList_seq rfl ?_
  walk_at "rd"
  intro b hb
  refine ⟨by decide, fun a ha => ?_⟩
  have hab : a ≠ b := fun z => by subst z; rw [MH.set_same] at ha; cases ha
  rw [MH.set_ne hab] at ha
  refine ⟨_, Shr.refl _, h a b _ ha hb ⟨ns, 0, 0, 17, hab, MH.set_same, ?_, hn, by decide, by decide, by decide, by decide⟩ fun x h1 h2 => ?_⟩
  · rw [MH.set_ne (Ne.symm hab), MH.set_same]
  · rw [MH.set_ne h1, MH.set_ne h2]) (fun _ _ _ _ _ _ us hl => match us, hl with | [_], _ => rfl)
def maxDraws : Nat := 1000000000000
def r_draw : RNQ := fun ds A P => ∃ (a b : Addr) (n : Nat) (m : Int), ds = [.mut a, .int m] ∧ 0 < m ∧ m < 1000000000 ∧ Strm A a b n ∧ n < maxDraws ∧ ∀ z A', 0 ≤ z → z < m → Strm A' a b (n + 1) → Off a b A A' → P (.int z) A'
theorem pow_small {i : Int} {k : Nat} (h : i.natAbs < 2 ^ 100) (hk : k ≤ 5) : (Builtin.Int.intBits i : Int) * (k : Int) ≤ 2 ^ 27 := by
  have h1 : Builtin.Int.intBits i ≤ 100 := PySem.intBits_le_iff.mpr h
  have h2 : Builtin.Int.intBits i * k ≤ 100 * 5 := Nat.mul_le_mul h1 hk
  have h3 : ((Builtin.Int.intBits i * k : Nat) : Int) ≤ 500 := by omega
  rw [Int.natCast_mul] at h3
  omega
theorem pow5 {i : Int} (h1 : 0 ≤ i) (h2 : i < 100000000000000000000) : (Builtin.Int.intBits i : Int) * 5 ≤ 2 ^ 27 := pow_small (k := 5) (by omega) (by decide)
theorem pow3 {i : Int} (h1 : 0 ≤ i) (h2 : i < 100000000000000000000) : (Builtin.Int.intBits i : Int) * 3 ≤ 2 ^ 27 := pow_small (k := 3) (by omega) (by decide)
theorem d__law_draw (Z : Nv K mg) : Def P w K mg base 1 "_law_draw" (defArgs s__law_draw) ["stream", "many"] r_draw := mkDef Z.f__law_draw (fun f fd F => by
  have S := sc__law_draw
  refine def_okS F S (by rintro ds A P ⟨a, b, n, m, rfl, _⟩; rfl) fun cdv A outer s H E tb hr => ?_
  refine ⟨_, (psq_cons (psq_asgG (pq_addI (pq_ix (qv 0) pq_int) pq_int) (ptg_sub setRel_L set_list (qv 0) pq_int)) (psq_cons (psq_while PassesOwn.never ((pwq_and (ptq_eq hr.units (pq_ix (qv 0) pq_int) pq_int) (pwq_and1 (ptq_nev 3 hr.units (pq_ix (qv 0) pq_int) (pq_lst false paq_nil))))).pt (psq_cons (psq_set (i := 2) S.nd (pq_bi cq_abs Z.b_abs (paq_cons (pq_pop (pq_ix (qv 0) pq_int) (paq_cons pq_int paq_nil)) paq_nil))) (psq_cons (psq_asgG (pq_modI (pq_bt cq_int Z.b_int (paq_cons (pq_addI (pq_addI (pq_mulI (pq_ix (qv 0) pq_int) pq_int) (qv 2)) pq_int) paq_nil)) pq_int) (ptg_sub setRel_L set_list (qv 0) pq_int)) (psq_one (psq_asgG (pq_if (ptq_geI (qv 2) (pq_powI pq_int pq_int)) (qv 2) pq_int) (ptg_sub setRel_L set_list (qv 0) pq_int)))))) (psq_cons (psq_if (ptq_gtI (pq_ix (qv 0) pq_int) pq_int) (psq_cons (psq_set (i := 3) S.nd (pq_modI (pq_bt cq_int Z.b_int (paq_cons (pq_ix (qv 0) pq_int) paq_nil)) (qv 1))) (psq_cons (psq_asgG (pq_divI (pq_ix (qv 0) pq_int) (qv 1)) (ptg_sub setRel_L set_list (qv 0) pq_int)) (psq_one (psq_ret (qv 3))))) psq_nil) (psq_cons (psq_set (i := 4) S.nd (pq_modI (pq_bt cq_int Z.b_int (paq_cons (pq_powI (pq_addI (pq_addI (pq_ix (qv 0) pq_int) (pq_mulI pq_int (pq_ix (qv 0) pq_int))) pq_int) pq_int) paq_nil)) pq_int)) (psq_one (psq_ret (pq_modI (pq_modI (pq_bt cq_int Z.b_int (paq_cons (pq_powI (pq_addI (pq_addI (pq_mulI (qv 4) pq_int) (pq_mulI pq_int (pq_ix (qv 0) pq_int))) pq_int) pq_int) paq_nil)) pq_int) (qv 1)))))))), ?_⟩
  rintro ds A P ⟨a, b, n, m, rfl, hm0, hm1, ⟨cs, x, y, z, hab, ha, hb, hl, hy0, hy1, hz0, hz1⟩, hn, h⟩
  rw [show startQ ["stream", "many", "cell", "digit", "mixed"] [D.mut a, D.int m] = [some (D.mut a), some (D.int m), none, none, none] from rfl]
  walk_at "rd"
  rw [qIx_mut ha]
  walk_at "rd"
  rw [setL_mut ha]
  walk_at "rd"
  refine ⟨fun k s' A' => ∃ (cs : List Int) (x z : Int) (x2 : Option D), s' = [some (D.mut a), some (.int m), x2, none, none] ∧ A' a = some (.lst [.mut b, .int x, .int (y + 1), .int z]) ∧ A' b = some (.lst (cs.map .int)) ∧ Off a b A A' ∧ cs.length = k ∧ k ≤ 63 ∧ 0 ≤ z ∧ z < 2147483647, ⟨cs.length, cs, x, z, _, rfl, MH.set_same, ?_, ?_, rfl, hl, hz0, hz1⟩, ?_⟩
  · rw [MH.set_ne (Ne.symm hab)]; exact hb
  · exact fun q h1 h2 => MH.set_ne h1
  rintro k s' A' ⟨cs, x, z, x2, rfl, ha, hb, ho, rfl, hl, hz0, hz1⟩
  walk_at "rd"
  rw [qIx_mut ha]
  walk_at "rd"
  by_cases hx : x = 0
  · rw [if_pos (decide_eq_true hx), qIx_mut ha]
    walk_at "rd"
    rw [view_mut hb]
    walk_at "rd"
    rw [view_nil]
    walk_at "rd"
    rw [eqD_nil]
    walk_at "rd"
    refine ⟨by decide, ?_⟩
    by_cases hc : cs = []
    · rw [if_neg (by rw [decide_eq_true hc]; decide)]
      rw [qIx_mut ha]
      walk_at "rd"
      by_cases h0 : 0 < x
      · rw [if_pos (decide_eq_true h0), qIx_mut ha]
        walk_at "rd"
        refine ⟨hm0, ?_⟩
        rw [qIx_mut ha]
        walk_at "rd"
        refine ⟨⟨hm0, by omega⟩, ?_⟩
        rw [setL_mut ha]
        walk_at "rd"
        refine ⟨_, Shr.refl _, h _ _ (Int.emod_nonneg _ (by omega)) (Int.emod_lt_of_pos _ hm0) ⟨cs, x / m, y + 1, z, hab, MH.set_same, by rw [MH.set_ne (Ne.symm hab)]; exact hb, hl, by omega, by omega, hz0, hz1⟩ fun q h1 h2 => by rw [MH.set_ne h1]; exact ho q h1 h2⟩
      · rw [if_neg (by rw [decide_eq_false h0]; decide), qIx_mut ha]
        walk_at "rd"
        rw [qIx_mut ha]
        walk_at "rd"
        refine ⟨.inl ⟨by decide, by decide⟩, ⟨by decide, pow5 (by omega) (by unfold maxDraws at hn; omega)⟩, show (0 : Int) < _ by decide, ?_⟩
        refine ⟨.inr ⟨by decide, by decide⟩, ?_⟩
        rw [qIx_mut ha]
        walk_at "rd"
        have g1 := Int.emod_nonneg ((z + 7919 * (y + 1) + 104729) ^ Int.toNat 5) (show (2147483629 : Int) ≠ 0 by decide)
        have g2 := Int.emod_lt_of_pos ((z + 7919 * (y + 1) + 104729) ^ Int.toNat 5) (show (0 : Int) < 2147483629 by decide)
        refine ⟨.inl ⟨by decide, by decide⟩, ⟨by decide, pow3 (by omega) (by unfold maxDraws at hn; omega)⟩, show (0 : Int) < _ by decide, hm0, ?_⟩
        exact ⟨_, Shr.refl _, h _ _ (Int.emod_nonneg _ (by omega)) (Int.emod_lt_of_pos _ hm0) ⟨cs, x, y + 1, z, hab, ha, hb, hl, by omega, by omega, hz0, hz1⟩ ho⟩
    · rw [if_pos (by rw [decide_eq_false hc]; rfl), qIx_mut ha]
      walk_at "rd"
      rw [isLm_mut hb, pop_mut hb]
      refine ⟨trivial, by decide, by decide, ?_⟩
      cases cs with
      | nil => exact absurd rfl hc
      | cons c cs =>
        have ha2 : (A'.set b (.lst (cs.map D.int))) a = some (.lst [.mut b, .int x, .int (y + 1), .int z]) := by rw [MH.set_ne hab]; exact ha
        show okQ (some (D.int c)) _
        rw [okQ_some]
        show qIx (.mut a) (.int 3) (A'.set b (.lst (cs.map D.int))) _
        rw [qIx_mut ha2]
        walk_at "rd"
        refine ⟨.inr ⟨by decide, by decide⟩, show (0 : Int) < _ by decide, ?_⟩
        rw [setL_mut ha2]
        walk_at "rd"
        refine ⟨⟨by decide, by decide⟩, ?_⟩
        have g1 := Int.emod_nonneg (z * 8191 + (if c < 0 then -c else c) + 3) (show (2147483647 : Int) ≠ 0 by decide)
        have g2 := Int.emod_lt_of_pos (z * 8191 + (if c < 0 then -c else c) + 3) (show (0 : Int) < 2147483647 by decide)
        rw [List.length_cons] at hl
        have fin : ∀ (v : Int) (A3 : MH), A3 = (((A'.set b (.lst (cs.map D.int))).set a (.lst [.mut b, .int x, .int (y + 1), .int ((z * 8191 + (if c < 0 then -c else c) + 3) % 2147483647)])).set a (.lst [.mut b, .int v, .int (y + 1), .int ((z * 8191 + (if c < 0 then -c else c) + 3) % 2147483647)])) → A3 b = some (.lst (cs.map D.int)) ∧ Off a b A A3 := fun v A3 e => by
          subst e
          refine ⟨by rw [MH.set_ne (Ne.symm hab), MH.set_ne (Ne.symm hab), MH.set_same], fun q h1 h2 => by rw [MH.set_ne h1, MH.set_ne h1, MH.set_ne h2]; exact ho q h1 h2⟩
        by_cases hbig : (10 : Int) ^ Int.toNat 18 ≤ if c < 0 then -c else c
        · rw [if_pos (decide_eq_true hbig), setL_mut MH.set_same]
          walk_at "rd"
          obtain ⟨f1, f2⟩ := fin _ _ rfl
          exact ⟨cs.length, by simp, cs, _, _, _, rfl, MH.set_same, f1, f2, rfl, by omega, g1, g2⟩
        · rw [if_neg (by rw [decide_eq_false hbig]; decide), setL_mut MH.set_same]
          walk_at "rd"
          obtain ⟨f1, f2⟩ := fin _ _ rfl
          exact ⟨cs.length, by simp, cs, _, _, _, rfl, MH.set_same, f1, f2, rfl, by omega, g1, g2⟩
  · rw [if_neg (by rw [decide_eq_false hx]; decide)]
    rw [qIx_mut ha]
    walk_at "rd"
    by_cases h0 : 0 < x
    · rw [if_pos (decide_eq_true h0), qIx_mut ha]
      walk_at "rd"
      refine ⟨hm0, ?_⟩
      rw [qIx_mut ha]
      walk_at "rd"
      refine ⟨⟨hm0, by omega⟩, ?_⟩
      rw [setL_mut ha]
      walk_at "rd"
      refine ⟨_, Shr.refl _, h _ _ (Int.emod_nonneg _ (by omega)) (Int.emod_lt_of_pos _ hm0) ⟨cs, x / m, y + 1, z, hab, MH.set_same, by rw [MH.set_ne (Ne.symm hab)]; exact hb, hl, by omega, by omega, hz0, hz1⟩ fun q h1 h2 => by rw [MH.set_ne h1]; exact ho q h1 h2⟩
    · rw [if_neg (by rw [decide_eq_false h0]; decide), qIx_mut ha]
      walk_at "rd"
      rw [qIx_mut ha]
      walk_at "rd"
      refine ⟨.inl ⟨by decide, by decide⟩, ⟨by decide, pow5 (by omega) (by unfold maxDraws at hn; omega)⟩, show (0 : Int) < _ by decide, ?_⟩
      refine ⟨.inr ⟨by decide, by decide⟩, ?_⟩
      rw [qIx_mut ha]
      walk_at "rd"
      have g1 := Int.emod_nonneg ((z + 7919 * (y + 1) + 104729) ^ Int.toNat 5) (show (2147483629 : Int) ≠ 0 by decide)
      have g2 := Int.emod_lt_of_pos ((z + 7919 * (y + 1) + 104729) ^ Int.toNat 5) (show (0 : Int) < 2147483629 by decide)
      refine ⟨.inl ⟨by decide, by decide⟩, ⟨by decide, pow3 (by omega) (by unfold maxDraws at hn; omega)⟩, show (0 : Int) < _ by decide, hm0, ?_⟩
      exact ⟨_, Shr.refl _, h _ _ (Int.emod_nonneg _ (by omega)) (Int.emod_lt_of_pos _ hm0) ⟨cs, x, y + 1, z, hab, ha, hb, hl, by omega, by omega, hz0, hz1⟩ ho⟩) (fun _ _ _ _ _ _ us hl => match us, hl with | [_, _], _ => rfl)
end
end K68


set_option Elab.async false
set_option linter.all false
set_option maxRecDepth 100000
set_option maxHeartbeats 4000000
namespace K68
open PySem L2 Qd
local macro_rules | `(tactic| walk_at "rd") => `(tactic| simp only [qVar_z, qVar_s, qC, qSeq, qNext, qRet, qRetN, qIfS, qTest, qIs, qOp, qUn, qAnd, qOr, qNot, qAndV, qOrV, qNotV, qCB, qCons, qNil, okQ_some, okQ_none, qIf, qChain, qI, qIC, r1_rd, r2_rd, Qd.rLen, qLc, qIt, rAllQ, rAnyQ, rSumQ, rMinQ, rMaxQ, rAbsQ, rIntQ, newL_f, newL_t, Bool.false_eq_true, if_false, qInS, qEq, qNe, qIsN, qNotN, qDrop, if_true, qDcB, qFill, kkB, qDGet, kkK, qDcK, qFzD, qAsg, tset_nm, tset_tp, tsets_nil, tsets_nm, tsets_tp, wipe_nil, wipe_cons, List.set_cons_zero, List.set_cons_succ, qRaise, qFor, qRng1, qRng2, qTup, qLst, qPar, eqD_int, eqD_str, eqD_bl, itD_lst, itD_tup, itD_dic, lenD_lst, lenD_tup, lenD_dic, dicD_dic, lstD_lst, seqD_lst, seqD_tup, qSl, qoNone, qoSome, qRevL, qLrg1, qLrg2, qCX, qKw, qKwX, List.length_cons, List.length_nil, List.map_cons, List.map_nil, qAsgG, gTupQ, gConsQ, gSubT, gNilQ, qTGet, qDcT, kkT, qNewT, qNewK, List.length_map, Int.toNat_natCast, ditD_mut, qIx_tup, qIx_lst, keysT_2, Bool.or_true, Bool.true_or, Int.zero_add, isN_tup, isN_lst, isN_int, isN_dic, isN_non, at_zero, qMeth, qAddL, qMulL, rTupQ, qCBw, qLX, qLKw, qMet, pick_0, pick_10, qFz, qFzN, qDispF, qNewF, qDictF, qpCons, qpNil, qDispB, qDispT, keyPs, obD, qEqV, gSubQ, qNegI, at4_0, at4_1, at4_2, at4_3, ix4_1, ix4_2, ix4_3])
local macro_rules | `(tactic| walk_at "rs") => `(tactic| simp only [qVar_z, qVar_s, qC, qNext, qRet, qRetN, qIfS, qTest, qIs, qOp, qUn, qAnd, qOr, qNot, qAndV, qOrV, qNotV, qCB, qCons, qNil, okQ_some, okQ_none, qIf, qChain, qI, qIC, r1_rd, r2_rd, Qd.rLen, qLc, qIt, rAllQ, rAnyQ, rSumQ, rMinQ, rMaxQ, rAbsQ, rIntQ, newL_f, newL_t, Bool.false_eq_true, if_false, qInS, qEq, qNe, qIsN, qNotN, qDrop, if_true, qDcB, qFill, kkB, qDGet, kkK, qDcK, qFzD, qAsg, tset_nm, tset_tp, tsets_nil, tsets_nm, tsets_tp, wipe_nil, wipe_cons, List.set_cons_zero, List.set_cons_succ, qRaise, qFor, qRng1, qRng2, qTup, qLst, qPar, eqD_int, eqD_str, eqD_bl, itD_lst, itD_tup, itD_dic, lenD_lst, lenD_tup, lenD_dic, dicD_dic, lstD_lst, seqD_lst, seqD_tup, qSl, qoNone, qoSome, qRevL, qLrg1, qLrg2, qCX, qKw, qKwX, List.length_cons, List.length_nil, List.map_cons, List.map_nil, qAsgG, gTupQ, gConsQ, gSubT, gNilQ, qTGet, qDcT, kkT, qNewT, qNewK, List.length_map, Int.toNat_natCast, ditD_mut, qIx_tup, qIx_lst, keysT_2, Bool.or_true, Bool.true_or, Int.zero_add, isN_tup, isN_lst, isN_int, isN_dic, isN_non, at_zero, qMeth, qAddL, qMulL, rTupQ, qCBw, qLX, qLKw, qMet, pick_0, pick_10, qFz, qFzN, qDispF, qNewF, qDictF, qpCons, qpNil, qDispB, qDispT, keyPs, obD, qEqV, gSubQ, qNegI, at4_0, at4_1, at4_2, at4_3, ix4_1, ix4_2, ix4_3])
section
variable {P : Program} {w : World} {K : PySem.W.Frag} {mg : Str → Option Value} {base : Heap}
/-- the items of a list, frozen or not (then no part of the stream) -/
def Its (A : MH) (a b : Addr) (d : D) (xs : List D) : Prop := d = .lst xs ∨ d = .tup xs ∨ ∃ c, d = .mut c ∧ c ≠ a ∧ c ≠ b ∧ A c = some (.lst xs)
theorem Its.len {A : MH} {a b : Addr} {d : D} {xs : List D} (h : Its A a b d xs) : lenD A d = some xs.length := by
  rcases h with rfl | rfl | ⟨c, rfl, _, _, h⟩
  · rfl
  · rfl
  · show (match A c with | some (.lst xs) => some xs.length | some (.dic kvs) => some kvs.length | _ => none) = _
    rw [h]
theorem Its.off {A A' : MH} {a b : Addr} {d : D} {xs : List D} (h : Its A a b d xs) (o : Off a b A A') : Its A' a b d xs := by
  rcases h with rfl | rfl | ⟨c, rfl, h1, h2, h⟩
  · exact .inl rfl
  · exact .inr (.inl rfl)
  · exact .inr (.inr ⟨c, rfl, h1, h2, by rw [o c h1 h2]; exact h⟩)
theorem Its.ix {A : MH} {a b : Addr} {d : D} {xs : List D} {i : Int} {P : KQ} (h : Its A a b d xs) (q : okQ (L2.atI xs i) fun x => P x A) : qIx d (.int i) A P := by
  rcases h with rfl | rfl | ⟨c, rfl, _, _, h⟩
  · exact q
  · exact q
  · rw [qIx_mut h]; exact q
def r_pick : RNQ := fun ds A P => ∃ (a b : Addr) (n : Nat) (t : D) (xs : List D), ds = [.mut a, t] ∧ Its A a b t xs ∧ 0 < xs.length ∧ xs.length ≤ 100000 ∧ Strm A a b n ∧ n < maxDraws ∧ ∀ (i : Nat) x A', xs[i]? = some x → Strm A' a b (n + 1) → Off a b A A' → P x A'
theorem d__law_pick (Z : Nv K mg) : Def P w K mg base 2 "_law_pick" (defArgs s__law_pick) ["stream", "things"] r_pick := mkDef Z.f__law_pick (fun f fd F => by
  have S := sc__law_pick
  refine def_okS F S (by rintro ds A P ⟨a, b, n, t, xs, rfl, _⟩; rfl) fun cdv A outer s H E tb hr => ?_
  have G__law_draw := d__law_draw (P := P) (w := w) (base := base) Z
  have HR__law_draw := hr
  refine ⟨_, (psq_one (psq_ret (pq_ix (qv 1) (pq_fn G__law_draw HR__law_draw (paq_cons (qv 0) (paq_cons (pq_bi cq_len Z.b_len (paq_cons (qv 1) paq_nil)) paq_nil)))))), ?_⟩
  rintro ds A P ⟨a, b, n, t, xs, rfl, ht, h0, hl, hs, hn, h⟩
  rw [show startQ ["stream", "things"] [D.mut a, t] = [some (D.mut a), some (t)] from rfl]
  walk_at "rd"
  rw [ht.len, okQ_some]
  refine ⟨a, b, n, _, rfl, by omega, by omega, hs, hn, fun z A' hz0 hz1 hs' ho => (ht.off ho).ix ?_⟩
  obtain ⟨i, rfl⟩ := Int.eq_ofNat_of_zero_le hz0
  have hi : i < xs.length := by omega
  rw [at_nat, List.getElem?_eq_getElem hi, okQ_some]
  exact ⟨A', Shr.refl _, h i _ A' (List.getElem?_eq_getElem hi) hs' ho⟩) (fun _ _ _ _ _ _ us hl => match us, hl with | [_, _], _ => rfl)
def r_mixed : RNQ := fun ds A P => ∃ (a b : Addr) (n : Nat) (xs : List D), ds = [.mut a, .lst xs] ∧ xs.length ≤ 1000 ∧ Strm A a b n ∧ n + xs.length < maxDraws ∧ ∀ ys A', ys.Perm xs → Strm A' a b (n + xs.length) → Off a b A A' → P (.lst ys) A'
theorem Strm.ne {A : MH} {a b : Addr} {n : Nat} (h : Strm A a b n) {c : Addr} (hc : A c = none) : c ≠ a ∧ c ≠ b := by
  obtain ⟨_, _, _, _, _, h1, h2, _⟩ := h
  exact ⟨fun z => (by rw [z, h1] at hc; cases hc), fun z => (by rw [z, h2] at hc; cases hc)⟩
theorem Strm.at {A A' : MH} {a b : Addr} {n : Nat} (h : Strm A a b n) (ha : A' a = A a) (hb : A' b = A b) : Strm A' a b n := by
  obtain ⟨cs, x, y, z, h0, h1, h2, h3⟩ := h
  exact ⟨cs, x, y, z, h0, ha.trans h1, hb.trans h2, h3⟩
theorem Strm.set {A : MH} {a b c : Addr} {n : Nat} {o : MO} (h : Strm A a b n) (h1 : c ≠ a) (h2 : c ≠ b) : Strm (A.set c o) a b n := h.at (MH.set_ne (Ne.symm h1)) (MH.set_ne (Ne.symm h2))
theorem d__law_mixed (Z : Nv K mg) : Def P w K mg base 2 "_law_mixed" (defArgs s__law_mixed) ["stream", "things"] r_mixed := mkDef Z.f__law_mixed (fun f fd F => by
  have S := sc__law_mixed
  refine def_okS F S (by rintro ds A P ⟨a, b, n, xs, rfl, _⟩; rfl) fun cdv A outer s H E tb hr => ?_
  have G__law_draw := d__law_draw (P := P) (w := w) (base := base) Z
  have HR__law_draw := hr
  refine ⟨_, (psq_cons (psq_par (i := 2) (j := 3) rfl S.nd (by decide) (paq_cons (pq_bt (cq_list true rfl) Z.b_list (paq_cons (qv 1) paq_nil)) (paq_cons (pq_lst true paq_nil) paq_nil))) (psq_cons (psq_for PassesOwn.never rfl (piq_rng1 Z.b_range (paq_cons (pq_bi cq_len Z.b_len (paq_cons (qv 2) paq_nil)) paq_nil)) (gq_nm 4 S.nd) (psq_one (psq_expr (pq_append (qv 3) (paq_cons (pq_pop (qv 2) (paq_cons (pq_fn G__law_draw HR__law_draw (paq_cons (qv 0) (paq_cons (pq_bi cq_len Z.b_len (paq_cons (qv 2) paq_nil)) paq_nil))) paq_nil)) paq_nil))))) (psq_one (psq_ret (pq_fz (qv 3)))))), ?_⟩
  rintro ds A P ⟨a, b, n, xs, rfl, hl, hs, hn, h⟩
  rw [show startQ ["stream", "things", "left", "found", "k"] [D.mut a, D.lst xs] = [some (D.mut a), some (D.lst xs), none, none, none] from rfl]
  walk_at "rd"
  refine rList_seq rfl ?_
  walk_at "rd"
  intro l hl0
  refine ⟨by decide, fun g hg0 => ?_⟩
  have hgl : g ≠ l := fun z => by subst z; rw [MH.set_same] at hg0; cases hg0
  rw [MH.set_ne hgl] at hg0
  obtain ⟨la, lb⟩ := hs.ne hl0
  obtain ⟨ga, gb⟩ := hs.ne hg0
  rw [len_mut (at2 hgl), okQ_some]
  refine ⟨⟨by omega, by omega⟩, ?_⟩
  refine runL_rng (fun i s' A' => ∃ (x4 : Option D) (us ys : List D), s' = [some (D.mut a), some (D.lst xs), some (D.mut l), some (D.mut g), x4] ∧ A' l = some (.lst us) ∧ A' g = some (.lst ys) ∧ (us ++ ys).Perm xs ∧ ys.length = i ∧ Strm A' a b (n + i) ∧ ∀ q, q ≠ a → q ≠ b → q ≠ l → q ≠ g → A' q = A q) ?_ ?_ ?_
  · exact ⟨none, xs, [], rfl, at2 hgl, MH.set_same, by rw [List.append_nil], rfl, (hs.set la lb).set ga gb, fun q _ _ h3 h4 => by rw [MH.set_ne h4, MH.set_ne h3]⟩
  · rintro i s' A' N hi ⟨x4, us, ys, rfl, hl1, hg1, hp, rfl, hs1, ho⟩ next
    have hlen := hp.length_eq
    rw [List.length_append] at hlen
    walk_at "rd"
    rw [isLm_mut hg1]
    refine ⟨trivial, ?_⟩
    rw [isLm_mut hl1, len_mut hl1, okQ_some]
    refine ⟨trivial, a, b, n + ys.length, _, rfl, by omega, by omega, hs1, by omega, fun z A2 hz0 hz1 hs2 ho2 => ?_⟩
    have hl2 : A2 l = some (.lst us) := by rw [ho2 l la lb]; exact hl1
    have hg2 : A2 g = some (.lst ys) := by rw [ho2 g ga gb]; exact hg1
    show rPopQ (.mut l) [.int z] A2 _
    rw [pop_mut hl2]
    obtain ⟨j, rfl⟩ := Int.eq_ofNat_of_zero_le hz0
    have hj : j < us.length := by omega
    refine ⟨hz0, by omega, ?_⟩
    rw [Int.toNat_natCast, List.getElem?_eq_getElem hj, okQ_some]
    rw [app_mut (show (A2.set l _) g = some (.lst ys) by rw [MH.set_ne hgl]; exact hg2)]
    refine ⟨by omega, next _ _ ⟨_, us.eraseIdx j, ys ++ [us[j]], rfl, ?_, MH.set_same, ?_, by rw [List.length_append]; rfl, ((hs2.set la lb).set ga gb), fun q h1 h2 h3 h4 => ?_⟩⟩
    · rw [MH.set_ne (Ne.symm hgl), MH.set_same]
    · refine List.Perm.trans ?_ hp
      have e1 : (us[j] :: us.eraseIdx j).Perm us := perm_erase us j hj
      have e2 : (us.eraseIdx j ++ (ys ++ [us[j]])).Perm (us[j] :: (us.eraseIdx j ++ ys)) := by
        rw [← List.append_assoc]
        exact List.perm_append_comm
      exact e2.trans (List.Perm.append_right ys e1)
    · rw [MH.set_ne h4, MH.set_ne h3, ho2 q h1 h2]
      exact ho q h1 h2 h3 h4
  · rintro s' A' ⟨x4, us, ys, rfl, hl1, hg1, hp, hy, hs1, ho⟩
    have hlen := hp.length_eq
    rw [List.length_append] at hlen
    have hu : us = [] := List.length_eq_zero_iff.mp (by omega)
    subst hu
    walk_at "rd"
    rw [hg1]
    refine ⟨fun q => if q = l ∨ q = g then none else A' q, fun q o e => ?_, h ys _ hp (hs1.at ?_ ?_) fun q h1 h2 => ?_⟩
    · by_cases hq : q = l ∨ q = g
      · simp [hq] at e
      · simp only [hq, if_false] at e
        rw [MH.del_ne (fun z => hq (.inr z))]
        exact e
    · show (if a = l ∨ a = g then none else A' a) = A' a
      rw [if_neg (fun z => z.elim (fun z => la z.symm) fun z => ga z.symm)]
    · show (if b = l ∨ b = g then none else A' b) = A' b
      rw [if_neg (fun z => z.elim (fun z => lb z.symm) fun z => gb z.symm)]
    · show (if q = l ∨ q = g then none else A' q) = A q
      by_cases hq : q = l
      · rw [if_pos (.inl hq), hq, hl0]
      · by_cases hq2 : q = g
        · rw [if_pos (.inr hq2), hq2, hg0]
        · rw [if_neg (fun z => z.elim hq hq2)]
          exact ho q h1 h2 hq hq2) (fun _ _ _ _ _ _ us hl => match us, hl with | [_, _], _ => rfl)
end
end K68


set_option Elab.async false
set_option linter.all false
set_option maxRecDepth 100000
set_option maxHeartbeats 4000000
namespace K68
open PySem L2 Qd
local macro_rules | `(tactic| walk_at "rd") => `(tactic| simp only [qVar_z, qVar_s, qC, qSeq, qNext, qRet, qRetN, qIfS, qTest, qIs, qOp, qUn, qAnd, qOr, qNot, qAndV, qOrV, qNotV, qCB, qCons, qNil, okQ_some, okQ_none, qIf, qChain, qI, qIC, r1_rd, r2_rd, Qd.rLen, qLc, qIt, rAllQ, rAnyQ, rSumQ, rMinQ, rMaxQ, rAbsQ, rIntQ, newL_f, newL_t, Bool.false_eq_true, if_false, qInS, qEq, qNe, qIsN, qNotN, qDrop, if_true, qDcB, qFill, kkB, qDGet, kkK, qDcK, qFzD, qAsg, tset_nm, tset_tp, tsets_nil, tsets_nm, tsets_tp, wipe_nil, wipe_cons, List.set_cons_zero, List.set_cons_succ, qRaise, qFor, qRng1, qRng2, qTup, qLst, qPar, eqD_int, eqD_str, eqD_bl, itD_lst, itD_tup, itD_dic, lenD_lst, lenD_tup, lenD_dic, dicD_dic, lstD_lst, seqD_lst, seqD_tup, qSl, qoNone, qoSome, qRevL, qLrg1, qLrg2, qCX, qKw, qKwX, List.length_cons, List.length_nil, List.map_cons, List.map_nil, qAsgG, gTupQ, gConsQ, gSubT, gNilQ, qTGet, qDcT, kkT, qNewT, qNewK, List.length_map, Int.toNat_natCast, ditD_mut, qIx_tup, qIx_lst, keysT_2, Bool.or_true, Bool.true_or, Int.zero_add, isN_tup, isN_lst, isN_int, isN_dic, isN_non, at_zero, qMeth, qAddL, qMulL, rTupQ, qCBw, qLX, qLKw, qMet, pick_0, pick_10, qFz, qFzN, qDispF, qNewF, qDictF, qpCons, qpNil, qDispB, qDispT, keyPs, obD, qEqV, gSubQ, qNegI, at4_0, at4_1, at4_2, at4_3, ix4_1, ix4_2, ix4_3])
local macro_rules | `(tactic| walk_at "rs") => `(tactic| simp only [qVar_z, qVar_s, qC, qNext, qRet, qRetN, qIfS, qTest, qIs, qOp, qUn, qAnd, qOr, qNot, qAndV, qOrV, qNotV, qCB, qCons, qNil, okQ_some, okQ_none, qIf, qChain, qI, qIC, r1_rd, r2_rd, Qd.rLen, qLc, qIt, rAllQ, rAnyQ, rSumQ, rMinQ, rMaxQ, rAbsQ, rIntQ, newL_f, newL_t, Bool.false_eq_true, if_false, qInS, qEq, qNe, qIsN, qNotN, qDrop, if_true, qDcB, qFill, kkB, qDGet, kkK, qDcK, qFzD, qAsg, tset_nm, tset_tp, tsets_nil, tsets_nm, tsets_tp, wipe_nil, wipe_cons, List.set_cons_zero, List.set_cons_succ, qRaise, qFor, qRng1, qRng2, qTup, qLst, qPar, eqD_int, eqD_str, eqD_bl, itD_lst, itD_tup, itD_dic, lenD_lst, lenD_tup, lenD_dic, dicD_dic, lstD_lst, seqD_lst, seqD_tup, qSl, qoNone, qoSome, qRevL, qLrg1, qLrg2, qCX, qKw, qKwX, List.length_cons, List.length_nil, List.map_cons, List.map_nil, qAsgG, gTupQ, gConsQ, gSubT, gNilQ, qTGet, qDcT, kkT, qNewT, qNewK, List.length_map, Int.toNat_natCast, ditD_mut, qIx_tup, qIx_lst, keysT_2, Bool.or_true, Bool.true_or, Int.zero_add, isN_tup, isN_lst, isN_int, isN_dic, isN_non, at_zero, qMeth, qAddL, qMulL, rTupQ, qCBw, qLX, qLKw, qMet, pick_0, pick_10, qFz, qFzN, qDispF, qNewF, qDictF, qpCons, qpNil, qDispB, qDispT, keyPs, obD, qEqV, gSubQ, qNegI, at4_0, at4_1, at4_2, at4_3, ix4_1, ix4_2, ix4_3])
section
variable {P : Program} {w : World} {K : PySem.W.Frag} {mg : Str → Option Value} {base : Heap}
def r_same (n : Nat) : RNQ := fun ds A P => ∃ d, ds = [d, d] ∧ plD d = true ∧ dep d < n ∧ P (.bl true) A
theorem d__law_same (Z : Nv K mg) : ∀ n : Nat, Def P w K mg base (n + 1) "_law_same" (defArgs s__law_same) ["found", "due"] (r_same n)
  | 0 => mkDef Z.f__law_same (fun f fd F => by
    have S := sc__law_same
    refine def_okS F S (by rintro ds A P ⟨d, rfl, _⟩; rfl) fun cdv A outer s H E tb hr => ⟨_, pss_never, ?_⟩
    rintro ds A P ⟨d, rfl, _, h, _⟩
    exact absurd h (Nat.not_lt_zero _)) (fun _ _ _ _ _ _ us hl => match us, hl with | [_, _], _ => rfl)
  | n + 1 => mkDef Z.f__law_same (fun f fd F => by
    have S := sc__law_same
    refine def_okS F S (by rintro ds A P ⟨d, rfl, _⟩; rfl) fun cdv A outer s H E tb hr => ?_
    have G__law_same := d__law_same Z n
    have HR__law_same := hr
    refine ⟨_, (psq_cons (psq_if (ptq_val (pq_istN (qv 1) (.cons (c := .lst) (pq_ty Z.b_list) rfl (.cons (c := .tup) (pq_ty Z.b_tuple) rfl .nil)) Z.b_isinstance)) (psq_cons (psq_if ((pwq_or (ptq_ne hr.units (pq_ist1 .lst (qv 0) (pq_ty Z.b_list) Z.b_isinstance) (pq_ist1 .lst (qv 1) (pq_ty Z.b_list) Z.b_isinstance)) (pwq_or1 (ptq_ne hr.units (pq_ist1 .tup (qv 0) (pq_ty Z.b_tuple) Z.b_isinstance) (pq_ist1 .tup (qv 1) (pq_ty Z.b_tuple) Z.b_isinstance))))).pt (psq_one (psq_ret pq_bl)) psq_nil) (psq_one (psq_ret (pq_and (pq_eq hr.units (pq_bi cq_len Z.b_len (paq_cons (qv 0) paq_nil)) (pq_bi cq_len Z.b_len (paq_cons (qv 1) paq_nil))) (pq_one (pq_bi (cq_all rfl) Z.b_all (paq_cons (pq_lc false rfl S.nd (piq_zip Z.b_zip (paq_cons (qv 0) (paq_cons (qv 1) paq_nil))) (blkOk_by (N := ["found", "due", "mine", "theirs"]) (sc := defScope s__law_same) (own := [("mine", 2), ("theirs", 3)]) (by decide +kernel)) (fun _ _ _ _ _ => (gq_tp rfl (gqs_cons (gq_nm 2 S.nd) (gqs_cons (gq_nm 3 S.nd) gqs_nil)))) (fun _ _ _ _ _ => qts_nil) (fun _ _ _ _ _ => (pq_fn G__law_same HR__law_same (paq_cons (qv 2) (paq_cons (qv 3) paq_nil))))) paq_nil))))))) psq_nil) (psq_cons (psq_if (ptq_val (pq_ist1 .dic (qv 1) (pq_ty Z.b_dict) Z.b_isinstance)) (psq_one (psq_ret (pq_and (pq_ist1 .dic (qv 0) (pq_ty Z.b_dict) Z.b_isinstance) (pq_one (pq_fn G__law_same HR__law_same (paq_cons (pq_items false rfl (qv 0) Z.b_list) (paq_cons (pq_items false rfl (qv 1) Z.b_list) paq_nil))))))) psq_nil) (psq_cons (psq_if ((pwq_or (ptq_val (pq_ist1 .bl (qv 1) (pq_ty Z.b_bool) Z.b_isinstance)) (pwq_or1 (ptq_val (pq_ist1 .bl (qv 0) (pq_ty Z.b_bool) Z.b_isinstance))))).pt (psq_one (psq_ret (pq_and (pq_ist1 .bl (qv 1) (pq_ty Z.b_bool) Z.b_isinstance) (pq_and (pq_ist1 .bl (qv 0) (pq_ty Z.b_bool) Z.b_isinstance) (pq_one (pq_eq hr.units (qv 0) (qv 1))))))) psq_nil) (psq_cons (psq_if ((pwq_or (ptq_isN (qv 1) pq_non) (pwq_or1 (ptq_isN (qv 0) pq_non)))).pt (psq_one (psq_ret (pq_and (pq_isN (qv 1) pq_non) (pq_one (pq_isN (qv 0) pq_non))))) psq_nil) (psq_cons (psq_if ((pwq_or (ptq_ne hr.units (pq_ist1 .int (qv 1) (pq_ty Z.b_int) Z.b_isinstance) (pq_ist1 .int (qv 0) (pq_ty Z.b_int) Z.b_isinstance)) (pwq_or1 (ptq_ne hr.units (pq_ist1 .str (qv 1) (pq_ty Z.b_str) Z.b_isinstance) (pq_ist1 .str (qv 0) (pq_ty Z.b_str) Z.b_isinstance))))).pt (psq_one (psq_ret pq_bl)) psq_nil) (psq_one (psq_ret (pq_and (pq_not (pq_istN (qv 0) (.cons (c := .lst) (pq_ty Z.b_list) rfl (.cons (c := .tup) (pq_ty Z.b_tuple) rfl (.cons (c := .dic) (pq_ty Z.b_dict) rfl .nil))) Z.b_isinstance)) (pq_one (pq_eq hr.units (qv 0) (qv 1))))))))))), ?_⟩
    rintro ds A P ⟨d, rfl, hp, hd, h⟩
    rw [show startQ ["found", "due", "mine", "theirs"] [d, d] = [some (d), some (d), none, none] from rfl]
    walk_at "rd"
    have seqs : ∀ (xs : List D) (Q : D → MH → Prop), plDs xs = true → deps xs < n → xs.length ≤ 100000 → Q (.bl true) A → compL (Tgt.tp [Tgt.nm 2, Tgt.nm 3]) qYes (qCB (r_same n) (qCons (qVar 2) (qCons (qVar 3) qNil))) [some d, some d, none, none] (pairL xs xs) [] A fun out A2 => okQ ((some out).bind blsD) fun bs => Q (.bl (bs.all id)) A2 := fun xs Q hx hdx hl hQ => by
      refine compL_map (fun _ => some (.bl true)) (pairL xs xs) [] (by rw [pairL_length]; simp; omega) (fun y hy Q2 hQ2 => ?_) (okQ_mk (z := (xs.map fun _ => true).map .bl) ?_ ?_)
      · unfold pairL at hy
        obtain ⟨p, hp2, rfl⟩ := List.mem_map.mp hy
        obtain ⟨x, hx2, rfl⟩ : ∃ x, x ∈ xs ∧ p = (x, x) := by
          obtain ⟨i, hi⟩ := List.getElem?_of_mem hp2
          rw [List.getElem?_zip_eq_some] at hi
          obtain ⟨h1, h2⟩ := hi
          rw [h1] at h2
          exact ⟨p.1, List.mem_of_getElem? h1, by cases p; simp at h2 ⊢; exact h2.symm⟩
        walk_at "rd"
        exact ⟨x, rfl, plDs_all.mp hx x hx2, Nat.lt_of_le_of_lt (deps_le hx2) hdx, hQ2⟩
      · have : pairL xs xs = (xs.zip xs).map fun p => .tup [p.1, p.2] := rfl
        rw [this, mapO_of_map]
        have := @mapO_map (D × D) D (D × D) (fun _ => some (.bl true)) id (fun _ => .bl true) (xs.zip xs) (fun _ _ => rfl)
        rw [List.map_id] at this
        rw [this, List.map_map]
        congr 1
        refine List.ext_getElem (by simp) fun i h1 h2 => by simp
      · rw [show (some ([] ++ (xs.map fun _ => true).map D.bl)).bind blsD = some (xs.map fun _ => true) from blsD_map _, okQ_some]
        have : (xs.map fun _ => true).all id = true := by simp
        rw [this]
        exact hQ
    cases d with
    | non => exact ⟨A, Shr.refl _, h⟩
    | bl b =>
      simp (decide := true) only [tyQ, okQ_some, if_false, if_true, isN, eqD_bl]
      exact ⟨A, Shr.refl _, h⟩
    | int i =>
      simp (decide := true) only [tyQ, okQ_some, if_false, if_true, isN, eqD_int]
      exact ⟨A, Shr.refl _, h⟩
    | str x =>
      simp (decide := true) only [tyQ, okQ_some, if_false, if_true, isN, eqD_str]
      exact ⟨A, Shr.refl _, h⟩
    | ty => cases hp
    | fn => cases hp
    | frl => cases hp
    | tup xs =>
      have hb := seqF_big (d := .tup xs) rfl hp
      simp (decide := true) only [tyQ, okQ_some, if_false, if_true, isN, lenD_tup, Int.natCast_inj, decide_true]
      exact seqs xs (fun d A' => ∃ A2, Shr A2 A' ∧ P d A2) (seqF_pl (d := .tup xs) rfl hp) (by rw [dep] at hd; omega) hb ⟨A, Shr.refl _, h⟩
    | lst xs =>
      have hb := seqF_big (d := .lst xs) rfl hp
      simp (decide := true) only [tyQ, okQ_some, if_false, if_true, isN, lenD_lst, Int.natCast_inj, decide_true]
      exact seqs xs (fun d A' => ∃ A2, Shr A2 A' ∧ P d A2) (seqF_pl (d := .lst xs) rfl hp) (by rw [dep] at hd; omega) hb ⟨A, Shr.refl _, h⟩
    | dic kvs =>
      simp (decide := true) only [tyQ, okQ_some, if_false, if_true]
      have hb := Bool.and_eq_true_iff.mp hp
      rw [dep] at hd
      have e1 := items_dep (ps := kvs.map fun p => (kD p.1, p.2))
      rw [depK_P] at e1
      refine ⟨_, rfl, ?_, ?_, A, Shr.refl _, h⟩
      · rw [plD, items_pl (plKs_P hb.2), Bool.and_true, List.length_map, List.length_map]; exact hb.1
      · rw [dep]; omega
    | gdc kvs =>
      simp (decide := true) only [tyQ, okQ_some, if_false, if_true]
      have hb := Bool.and_eq_true_iff.mp hp
      rw [dep] at hd
      have e1 := items_dep (ps := kvs)
      refine ⟨_, rfl, ?_, ?_, A, Shr.refl _, h⟩
      · rw [plD, items_pl hb.2, Bool.and_true, List.length_map]; exact hb.1
      · rw [dep]; omega
    | «mut» => cases hp) (fun _ _ _ _ _ _ us hl => match us, hl with | [_, _], _ => rfl)
end
end K68



set_option Elab.async false
set_option linter.all false
set_option maxRecDepth 100000
set_option maxHeartbeats 4000000
namespace K68
open PySem L2 Qd
local macro_rules | `(tactic| walk_at "rd") => `(tactic| simp only [qVar_z, qVar_s, qC, qSeq, qNext, qRet, qRetN, qIfS, qTest, qIs, qOp, qUn, qAnd, qOr, qNot, qAndV, qOrV, qNotV, qCB, qCons, qNil, okQ_some, okQ_none, qIf, qChain, qI, qIC, r1_rd, r2_rd, Qd.rLen, qLc, qIt, rAllQ, rAnyQ, rSumQ, rMinQ, rMaxQ, rAbsQ, rIntQ, newL_f, newL_t, Bool.false_eq_true, if_false, qInS, qEq, qNe, qIsN, qNotN, qDrop, if_true, qDcB, qFill, kkB, qDGet, kkK, qDcK, qFzD, qAsg, tset_nm, tset_tp, tsets_nil, tsets_nm, tsets_tp, wipe_nil, wipe_cons, List.set_cons_zero, List.set_cons_succ, qRaise, qFor, qRng1, qRng2, qTup, qLst, qPar, eqD_int, eqD_str, eqD_bl, itD_lst, itD_tup, itD_dic, lenD_lst, lenD_tup, lenD_dic, dicD_dic, lstD_lst, seqD_lst, seqD_tup, qSl, qoNone, qoSome, qRevL, qLrg1, qLrg2, qCX, qKw, qKwX, List.length_cons, List.length_nil, List.map_cons, List.map_nil, qAsgG, gTupQ, gConsQ, gSubT, gNilQ, qTGet, qDcT, kkT, qNewT, qNewK, List.length_map, Int.toNat_natCast, ditD_mut, qIx_tup, qIx_lst, keysT_2, Bool.or_true, Bool.true_or, Int.zero_add, isN_tup, isN_lst, isN_int, isN_dic, isN_non, at_zero, qMeth, qAddL, qMulL, rTupQ, qCBw, qLX, qLKw, qMet, pick_0, pick_10, qFz, qFzN, qDispF, qNewF, qDictF, qpCons, qpNil, qDispB, qDispT, keyPs, obD, qEqV, gSubQ, qNegI, at4_0, at4_1, at4_2, at4_3, ix4_1, ix4_2, ix4_3])
local macro_rules | `(tactic| walk_at "rs") => `(tactic| simp only [qVar_z, qVar_s, qC, qNext, qRet, qRetN, qIfS, qTest, qIs, qOp, qUn, qAnd, qOr, qNot, qAndV, qOrV, qNotV, qCB, qCons, qNil, okQ_some, okQ_none, qIf, qChain, qI, qIC, r1_rd, r2_rd, Qd.rLen, qLc, qIt, rAllQ, rAnyQ, rSumQ, rMinQ, rMaxQ, rAbsQ, rIntQ, newL_f, newL_t, Bool.false_eq_true, if_false, qInS, qEq, qNe, qIsN, qNotN, qDrop, if_true, qDcB, qFill, kkB, qDGet, kkK, qDcK, qFzD, qAsg, tset_nm, tset_tp, tsets_nil, tsets_nm, tsets_tp, wipe_nil, wipe_cons, List.set_cons_zero, List.set_cons_succ, qRaise, qFor, qRng1, qRng2, qTup, qLst, qPar, eqD_int, eqD_str, eqD_bl, itD_lst, itD_tup, itD_dic, lenD_lst, lenD_tup, lenD_dic, dicD_dic, lstD_lst, seqD_lst, seqD_tup, qSl, qoNone, qoSome, qRevL, qLrg1, qLrg2, qCX, qKw, qKwX, List.length_cons, List.length_nil, List.map_cons, List.map_nil, qAsgG, gTupQ, gConsQ, gSubT, gNilQ, qTGet, qDcT, kkT, qNewT, qNewK, List.length_map, Int.toNat_natCast, ditD_mut, qIx_tup, qIx_lst, keysT_2, Bool.or_true, Bool.true_or, Int.zero_add, isN_tup, isN_lst, isN_int, isN_dic, isN_non, at_zero, qMeth, qAddL, qMulL, rTupQ, qCBw, qLX, qLKw, qMet, pick_0, pick_10, qFz, qFzN, qDispF, qNewF, qDictF, qpCons, qpNil, qDispB, qDispT, keyPs, obD, qEqV, gSubQ, qNegI, at4_0, at4_1, at4_2, at4_3, ix4_1, ix4_2, ix4_3])
section
variable {P : Program} {w : World} {K : PySem.W.Frag} {mg : Str → Option Value} {base : Heap}
/-! copied: the same anew -/
def r_copied (n : Nat) : RNQ := fun ds A P => ∃ d, ds = [d] ∧ datD d = true ∧ nod d ≤ 100000 ∧ dep d < n ∧ P d A
theorem d__law_copied (Z : Nv K mg) : ∀ n : Nat, Def P w K mg base (n + 1) "_law_copied" (defArgs s__law_copied) ["thing"] (r_copied n)
  | 0 => mkDef Z.f__law_copied (fun f fd F => by
    have S := sc__law_copied
    refine def_okS F S (by rintro ds A P ⟨d, rfl, _⟩; rfl) fun cdv A outer s H E tb hr => ⟨_, pss_never, ?_⟩
    rintro ds A P ⟨d, rfl, _, _, h, _⟩
    exact absurd h (Nat.not_lt_zero _)) (fun _ _ _ _ _ _ us hl => match us, hl with | [_], _ => rfl)
  | n + 1 => mkDef Z.f__law_copied (fun f fd F => by
    have S := sc__law_copied
    refine def_okS F S (by rintro ds A P ⟨d, rfl, _⟩; rfl) fun cdv A outer s H E tb hr => ?_
    have G__law_copied := d__law_copied Z n
    have HR__law_copied := hr
    refine ⟨_, (psq_cons (psq_if (ptq_val (pq_ist1 .dic (qv 0) (pq_ty Z.b_dict) Z.b_isinstance)) (psq_one (psq_ret (pq_fzD (pq_bt (cq_dict rfl) Z.b_dict (paq_cons (pq_lc false rfl S.nd (piq_it (qv 0)) (blkOk_by (N := ["thing", "key", "some", "one"]) (sc := defScope s__law_copied) (own := [("key", 1)]) (by decide +kernel)) (fun _ _ _ _ _ => (gq_nm 1 S.nd)) (fun _ _ _ _ _ => qts_nil) (fun _ _ _ _ _ => (pq_tup (paq_cons (qv 1) (paq_cons (pq_fn G__law_copied HR__law_copied (paq_cons (pq_ix (qv 0) (qv 1)) paq_nil)) paq_nil))))) paq_nil))))) psq_nil) (psq_cons (psq_set (i := 2) S.nd (pq_if (ptq_val (pq_istN (qv 0) (.cons (c := .lst) (pq_ty Z.b_list) rfl (.cons (c := .tup) (pq_ty Z.b_tuple) rfl .nil)) Z.b_isinstance)) (pq_lc false rfl S.nd (piq_it (qv 0)) (blkOk_by (N := ["thing", "key", "some", "one"]) (sc := defScope s__law_copied) (own := [("one", 3)]) (by decide +kernel)) (fun _ _ _ _ _ => (gq_nm 3 S.nd)) (fun _ _ _ _ _ => qts_nil) (fun _ _ _ _ _ => (pq_fn G__law_copied HR__law_copied (paq_cons (qv 3) paq_nil)))) (qv 0))) (psq_one (psq_ret (pq_if (ptq_val (pq_ist1 .tup (qv 0) (pq_ty Z.b_tuple) Z.b_isinstance)) (pq_bt cq_tup Z.b_tuple (paq_cons (qv 2) paq_nil)) (qv 2)))))), ?_⟩
    rintro ds A P ⟨d, rfl, hp, hn, hd, h⟩
    rw [show startQ ["thing", "key", "some", "one"] [d] = [some (d), none, none, none] from rfl]
    walk_at "rd"
    cases d with
    | non => exact ⟨A, Shr.refl _, h⟩
    | bl b => exact ⟨A, Shr.refl _, h⟩
    | int i => exact ⟨A, Shr.refl _, h⟩
    | str x => exact ⟨A, Shr.refl _, h⟩
    | ty => cases hp
    | fn => cases hp
    | frl => cases hp
    | gdc => cases hp
    | «mut» => cases hp
    | tup xs =>
      simp (decide := true) only [tyQ, okQ_some, if_false, if_true]
      rw [nod] at hn; rw [dep] at hd
      rw [itD_tup, okQ_some]
      refine compL_id xs (by have := nods_len xs; omega) (fun y hy Q hQ => ?_) ⟨A, Shr.refl _, h⟩
      walk_at "rd"
      exact ⟨y, rfl, datDs_all.mp hp y hy, by have := nods_mem hy; omega, by have := deps_le hy; omega, hQ⟩
    | lst xs =>
      simp (decide := true) only [tyQ, okQ_some, if_false, if_true]
      rw [nod] at hn; rw [dep] at hd
      rw [itD_lst, okQ_some]
      refine compL_id xs (by have := nods_len xs; omega) (fun y hy Q hQ => ?_) ⟨A, Shr.refl _, h⟩
      walk_at "rd"
      exact ⟨y, rfl, datDs_all.mp hp y hy, by have := nods_mem hy; omega, by have := deps_le hy; omega, hQ⟩
    | dic kvs =>
      cases kvs with
      | cons => cases hp
      | nil =>
        simp (decide := true) only [tyQ, okQ_some, if_false, if_true]
        rw [itD_dic, okQ_some]
        unfold keysD
        rw [List.map_nil]
        unfold compL
        exact rDict_lst rfl (newD_fz (P := fun d A1 => ∃ A2, Shr A2 A1 ∧ P d A2) ⟨A, Shr.refl _, h⟩)) (fun _ _ _ _ _ _ us hl => match us, hl with | [_], _ => rfl)
/-! loose: lists for tuples and the other way about -/
def r_loose (n : Nat) : RNQ := fun ds A P => ∃ (a b : Addr) (k : Nat) (d : D), ds = [.mut a, d] ∧ datD d = true ∧ nod d ≤ 100000 ∧ dep d < n ∧ Strm A a b k ∧ k + nod d ≤ maxDraws ∧ ∀ e A', Loo d e → Strm A' a b (k + nod d) → Off a b A A' → P e A'
theorem Strm.up {A : MH} {a b : Addr} {n m : Nat} (h : Strm A a b n) (l : n ≤ m) : Strm A a b m := by
  obtain ⟨cs, x, y, z, h0, h1, h2, h3, h4, h5, h6⟩ := h
  exact ⟨cs, x, y, z, h0, h1, h2, h3, h4, by omega, h6⟩
theorem Off.trans {a b : Addr} {A B C : MH} (h : Off a b A B) (g : Off a b B C) : Off a b A C := fun x h1 h2 => (g x h1 h2).trans (h x h1 h2)
theorem Off.refl {a b : Addr} (A : MH) : Off a b A A := fun _ _ _ => rfl
theorem d__law_loose (Z : Nv K mg) : ∀ n : Nat, Def P w K mg base (n + 2) "_law_loose" (defArgs s__law_loose) ["stream", "thing"] (r_loose n)
  | 0 => mkDef Z.f__law_loose (fun f fd F => by
    have S := sc__law_loose
    refine def_okS F S (by rintro ds A P ⟨a, b, k, d, rfl, _⟩; rfl) fun cdv A outer s H E tb hr => ⟨_, pss_never, ?_⟩
    rintro ds A P ⟨a, b, k, d, rfl, _, _, h, _⟩
    exact absurd h (Nat.not_lt_zero _)) (fun _ _ _ _ _ _ us hl => match us, hl with | [_, _], _ => rfl)
  | n + 1 => mkDef Z.f__law_loose (fun f fd F => by
    have S := sc__law_loose
    refine def_okS F S (by rintro ds A P ⟨a, b, k, d, rfl, _⟩; rfl) fun cdv A outer s H E tb hr => ?_
    have G__law_loose := d__law_loose Z n
    have HR__law_loose := hr
    have G__law_draw := d__law_draw (P := P) (w := w) (base := base) Z
    have HR__law_draw := hr.mono (show 1 ≤ n + 2 by omega)
    refine ⟨_, (psq_cons (psq_if (ptq_not (ptq_val (pq_istN (qv 1) (.cons (c := .lst) (pq_ty Z.b_list) rfl (.cons (c := .tup) (pq_ty Z.b_tuple) rfl .nil)) Z.b_isinstance))) (psq_one (psq_ret (qv 1))) psq_nil) (psq_cons (psq_setLc false (i := 2) rfl S.nd (piq_it (qv 1)) (blkOk_by (N := ["stream", "thing", "some", "part"]) (sc := defScope s__law_loose) (own := [("part", 3)]) (by decide +kernel)) (fun _ _ _ _ _ => (gq_nm 3 S.nd)) (fun _ _ _ _ _ => qts_nil) (fun _ _ _ _ _ => (pq_fn G__law_loose HR__law_loose (paq_cons (qv 0) (paq_cons (qv 3) paq_nil)))) (sw_true rfl rfl rfl (by decide +kernel))) (psq_one (psq_ret (pq_if (ptq_eq hr.units (pq_fn G__law_draw HR__law_draw (paq_cons (qv 0) (paq_cons pq_int paq_nil))) pq_int) (pq_bt cq_tup Z.b_tuple (paq_cons (qv 2) paq_nil)) (qv 2)))))), ?_⟩
    rintro ds A P ⟨a, b, k, d, rfl, hp, hn, hd, hs, hk, h⟩
    rw [show startQ ["stream", "thing", "some", "part"] [D.mut a, d] = [some (D.mut a), some (d), none, none] from rfl]
    walk_at "rd"
    have pd := datD_pl hp hn
    rw [pl_ty pd, okQ_some, any_seq pd]
    cases es : seqF d with
    | none =>
      rw [if_pos (by rfl)]
      exact ⟨A, Shr.refl _, h d A (.same d) (hs.up (by omega)) (Off.refl A)⟩
    | some xs =>
      have hq := datD_seq es
      rw [if_neg (by simp), seqF_it es, okQ_some]
      refine compL_st (fun i A' => Strm A' a b (k + nods (xs.take i)) ∧ Off a b A A') (fun _ x y => Loo x y) (by have := nods_len xs; omega) ⟨hs, Off.refl A⟩ ?_ ?_
      · rintro i x A' hx ⟨hs1, ho1⟩ Q hQ
        walk_at "rd"
        have hm := List.mem_of_getElem? hx
        have e1 := nods_take hx
        have e2 := nods_takele xs (i + 1)
        exact ⟨a, b, _, x, rfl, datDs_all.mp (hq.1 ▸ hp) x hm, by have := nods_mem hm; omega, by have := deps_le hm; omega, hs1, by omega, fun e A2 he hs2 ho2 => hQ e A2 he ⟨hs2.up (by omega), ho1.trans ho2⟩⟩
      · rintro out A2 hl hr ⟨hs1, ho1⟩
        rw [List.take_length] at hs1
        refine ⟨a, b, _, 2, rfl, by decide, by decide, hs1, by omega, fun z A3 hz0 hz1 hs3 ho3 => ?_⟩
        walk_at "rd"
        have lo := Loos.of hl.symm hr
        by_cases hz : z = 0
        · rw [if_pos (decide_eq_true hz)]
          exact ⟨A3, Shr.refl _, h _ A3 (.seq es rfl lo) (hs3.up (by omega)) (ho1.trans ho3)⟩
        · rw [if_neg (by rw [decide_eq_false hz]; decide)]
          exact ⟨A3, Shr.refl _, h _ A3 (.seq es rfl lo) (hs3.up (by omega)) (ho1.trans ho3)⟩) (fun _ _ _ _ _ _ us hl => match us, hl with | [_, _], _ => rfl)
def r_isnum : RNQ := fun ds A P => ∃ (d : D) (m : Int), ds = [d, .int m] ∧ plD d = true ∧ ∀ b : Bool, (b = true ↔ ∃ i : Int, d = .int i ∧ 0 ≤ i ∧ i < m) → P (.bl b) A
theorem d__law_is_number (Z : Nv K mg) : Def P w K mg base 1 "_law_is_number" (defArgs s__law_is_number) ["thing", "most"] r_isnum := mkDef Z.f__law_is_number (fun f fd F => by
  have S := sc__law_is_number
  refine def_ok F S (by rintro ds A P ⟨d, m, rfl, _⟩; rfl) fun cdv A outer s H E tb hr => ⟨_, (psq_one (psq_ret (pq_and (pq_ist1 .int (qv 0) (pq_ty Z.b_int) Z.b_isinstance) (pq_and (pq_not (pq_ist1 .bl (qv 0) (pq_ty Z.b_bool) Z.b_isinstance)) (pq_and (pq_geI (qv 0) pq_int) (pq_one (pq_or (pq_isN (qv 1) pq_non) (pq_one (pq_ltI (qv 0) (qv 1)))))))))), ?_⟩
  rintro ds A P ⟨d, m, rfl, hp, h⟩
  rw [show startQ ["thing", "most"] [d, D.int m] = [some (d), some (D.int m)] from rfl]
  walk_at "rd"
  have no : (∀ i, d ≠ .int i) → P (.bl false) A := fun hn => h false ⟨fun z => (by cases z), fun ⟨i, e, _⟩ => absurd e (hn i)⟩
  cases d with
  | int i =>
    show (match D.bl (decide (0 ≤ i)) with | .bl true => _ | .bl false => _ | _ => False)
    by_cases h0 : 0 ≤ i
    · rw [decide_eq_true h0]
      exact h _ ⟨fun z => ⟨i, rfl, h0, of_decide_eq_true z⟩, fun ⟨j, e, _, z⟩ => by cases e; exact decide_eq_true z⟩
    · rw [decide_eq_false h0]
      exact h false ⟨fun z => (by cases z), fun ⟨j, e, z, _⟩ => by cases e; exact absurd z h0⟩
  | non => exact no fun i z => by cases z
  | bl b => exact no fun i z => by cases z
  | str x => exact no fun i z => by cases z
  | tup xs => exact no fun i z => by cases z
  | lst xs => exact no fun i z => by cases z
  | dic xs => exact no fun i z => by cases z
  | gdc xs => exact no fun i z => by cases z
  | ty => cases hp
  | fn => cases hp
  | frl => cases hp
  | «mut» => cases hp) (fun _ _ _ _ _ _ us hl => match us, hl with | [_, _], _ => rfl)
mutual
/-- no tuple in it -/
def noT : D → Bool
  | .tup _ => false
  | .lst xs => noTs xs
  | _ => true
def noTs : List D → Bool
  | [] => true
  | x :: xs => noT x && noTs xs
end
theorem noTs_all {xs : List D} : noTs xs = true ↔ ∀ x ∈ xs, noT x = true := by
  induction xs with
  | nil => exact ⟨fun _ x h => (by cases h), fun _ => rfl⟩
  | cons a r ih =>
    rw [noTs, Bool.and_eq_true, ih]
    constructor
    · rintro ⟨h1, h2⟩ x hx
      exact (List.mem_cons.mp hx).elim (fun e => e ▸ h1) (h2 x)
    · exact fun h => ⟨h a (List.mem_cons_self ..), fun x hx => h x (List.mem_cons_of_mem _ hx)⟩
def r_bent (n : Nat) : RNQ := fun ds A P => ∃ (a b : Addr) (k : Nat) (d : D) (os : List D), ds = [.mut a, d, .lst os] ∧ datD d = true ∧ noT d = true ∧ nod d ≤ 10000 ∧ dep d < n ∧ 0 < os.length ∧ os.length ≤ 1000 ∧ (∀ o ∈ os, datD o = true ∧ nod o ≤ 3 ∧ dep o ≤ 1) ∧ Strm A a b k ∧ k + 4 * n ≤ maxDraws ∧ ∀ e A', datD e = true → nod e ≤ 2 * nod d + 4 → dep e ≤ dep d + 1 → Strm A' a b (k + 4 * n) → Off a b A A' → P e A'
theorem d__law_e_bent (Z : Nv K mg) : ∀ n : Nat, Def P w K mg base (n + 3) "_law_e_bent" (defArgs s__law_e_bent) ["stream", "thing", "odds"] (r_bent n)
  | 0 => mkDef Z.f__law_e_bent (fun f fd F => by
    have S := sc__law_e_bent
    refine def_okS F S (by rintro ds A P ⟨a, b, k, d, os, rfl, _⟩; rfl) fun cdv A outer s H E tb hr => ⟨_, pss_never, ?_⟩
    rintro ds A P ⟨a, b, k, d, os, rfl, _, _, _, h, _⟩
    exact absurd h (Nat.not_lt_zero _)) (fun _ _ _ _ _ _ us hl => match us, hl with | [_, _, _], _ => rfl)
  | n + 1 => mkDef Z.f__law_e_bent (fun f fd F => by
    have S := sc__law_e_bent
    refine def_okS F S (by rintro ds A P ⟨a, b, k, d, os, rfl, _⟩; rfl) fun cdv A outer s H E tb hr => ?_
    have G__law_e_bent := d__law_e_bent Z n
    have HR__law_e_bent := hr
    have G__law_draw := d__law_draw (P := P) (w := w) (base := base) Z
    have HR__law_draw := hr.mono (show 1 ≤ n + 3 by omega)
    have G__law_pick := d__law_pick (P := P) (w := w) (base := base) Z
    have HR__law_pick := hr.mono (show 2 ≤ n + 3 by omega)
    refine ⟨_, (psq_cons (psq_if ((pwq_or (ptq_not (ptq_val (pq_istN (qv 1) (.cons (c := .lst) (pq_ty Z.b_list) rfl (.cons (c := .tup) (pq_ty Z.b_tuple) rfl .nil)) Z.b_isinstance))) (pwq_or (ptq_eq hr.units (pq_bi cq_len Z.b_len (paq_cons (qv 1) paq_nil)) pq_int) (pwq_or1 (ptq_eq hr.units (pq_fn G__law_draw HR__law_draw (paq_cons (qv 0) (paq_cons pq_int paq_nil))) pq_int))))).pt (psq_one (psq_ret (pq_fn G__law_pick HR__law_pick (paq_cons (qv 0) (paq_cons (qv 2) paq_nil))))) psq_nil) (psq_cons (psq_par (i := 3) (j := 4) rfl S.nd (by decide) (paq_cons (pq_fn G__law_draw HR__law_draw (paq_cons (qv 0) (paq_cons (pq_bi cq_len Z.b_len (paq_cons (qv 1) paq_nil)) paq_nil))) (paq_cons (pq_fn G__law_draw HR__law_draw (paq_cons (qv 0) (paq_cons pq_int paq_nil))) paq_nil))) (psq_cons (psq_set (i := 5) S.nd (pq_if (ptq_eq hr.units (qv 4) pq_int) (pq_lst false paq_nil) (pq_if (ptq_eq hr.units (qv 4) pq_int) (pq_lst false (paq_cons (pq_ix (qv 1) (qv 3)) (paq_cons (pq_ix (qv 1) (qv 3)) paq_nil))) (pq_lst false (paq_cons (pq_fn G__law_e_bent HR__law_e_bent (paq_cons (qv 0) (paq_cons (pq_ix (qv 1) (qv 3)) (paq_cons (qv 2) paq_nil)))) paq_nil))))) (psq_cons (psq_set (i := 6) S.nd (pq_if (ptq_ne hr.units (qv 4) pq_int) (pq_addL false (pq_addL false (pq_bt (cq_list false rfl) Z.b_list (paq_cons (pq_slice false (qv 1) poq_none (poq_some (qv 3))) paq_nil)) (qv 5)) (pq_bt (cq_list false rfl) Z.b_list (paq_cons (pq_slice false (qv 1) (poq_some (pq_addI (qv 3) pq_int)) poq_none) paq_nil))) (pq_revL false (pq_bt (cq_list false rfl) Z.b_list (paq_cons (qv 1) paq_nil))))) (psq_one (psq_ret (pq_if (ptq_eq hr.units (pq_fn G__law_draw HR__law_draw (paq_cons (qv 0) (paq_cons pq_int paq_nil))) pq_int) (pq_bt cq_tup Z.b_tuple (paq_cons (qv 6) paq_nil)) (qv 6)))))))), ?_⟩
    rintro ds A P ⟨a, b, k, d, os, rfl, hp, ht, hn, hd, ho1', ho2', ho, hs, hk, h⟩
    rw [show startQ ["stream", "thing", "odds", "at", "way", "middle", "found"] [D.mut a, d, D.lst os] = [some (D.mut a), some (d), some (D.lst os), none, none, none, none] from rfl]
    have pick : ∀ A1 j, Strm A1 a b j → j ≤ k + 1 → Off a b A A1 → r_pick [.mut a, .lst os] A1 fun d A' => ∃ A2, Shr A2 A' ∧ P d A2 := fun A1 j hs1 hj ho1 =>
      ⟨a, b, j, _, os, rfl, .inl rfl, ho1', by omega, hs1, by omega, fun i x A2 hx hs2 ho2 => by
        have := ho x (List.mem_of_getElem? hx)
        exact ⟨A2, Shr.refl _, h x A2 this.1 (by omega) (by omega) (hs2.up (by omega)) (ho1.trans ho2)⟩⟩
    have pd := datD_pl hp (by omega)
    refine qSeq_st fun N1 n1 => ?_
    walk_at "rs"
    rw [pl_ty pd, okQ_some, any_seq pd]
    cases es : seqF d with
    | none =>
      rw [if_pos (by rfl)]
      exact pick A k hs (by omega) (Off.refl A)
    | some xs =>
      have hq := datD_seq es
      obtain rfl : d = .lst xs := by cases d <;> first | (cases es; done) | (cases es; rfl) | (cases ht; done)
      rw [if_neg (by simp), lenD_lst, okQ_some]
      by_cases hx0 : xs.length = 0
      · rw [if_pos (decide_eq_true (by omega))]
        exact pick A k hs (by omega) (Off.refl A)
      rw [if_neg (by rw [decide_eq_false (by omega)]; decide)]
      refine ⟨a, b, k, 6, rfl, by decide, by decide, hs, by omega, fun z A1 hz0 hz1 hs1 ho1 => ?_⟩
      walk_at "rs"
      by_cases hz : z = 0
      · rw [if_pos (decide_eq_true hz)]
        exact pick A1 _ hs1 (by omega) ho1
      rw [if_neg (by rw [decide_eq_false hz]; decide)]
      refine n1 _ _ (qSeq_st fun N2 n2 => ?_)
      walk_at "rs"
      have hxl := nods_len xs
      refine ⟨a, b, _, _, rfl, by omega, by omega, hs1, by omega, fun at' A2 ha0 ha1 hs2 ho2 => ?_⟩
      refine ⟨a, b, _, 7, rfl, by decide, by decide, hs2, by omega, fun way A3 hw0 hw1 hs3 ho3 => ?_⟩
      obtain ⟨i, rfl⟩ := Int.eq_ofNat_of_zero_le ha0
      have hi : i < xs.length := by omega
      have hxi : xs[i]? = some xs[i] := List.getElem?_eq_getElem hi
      have hmi := List.mem_of_getElem? hxi
      have ho3' := (ho1.trans ho2).trans ho3
      have hsp := nods_split xs i hi
      refine n2 _ _ (qSeq_st fun N3 n3 => ?_)
      have fin : ∀ (mid : List D) A4, datDs mid = true → (way ≠ 2 → nods mid ≤ 2 * nod xs[i] + 4) → deps mid ≤ deps xs + 1 → mid.length ≤ 2 → Strm A4 a b (k + 3 + 4 * n) → Off a b A A4 → N3 [some (D.mut a), some (D.lst xs), some (D.lst os), some (.int (i : Int)), some (.int way), some (.lst mid), none] A4 := fun mid A4 m1 m2 m3 m4 hs4 ho4 => by
        refine n3 _ _ (qSeq_st fun N4 n4 => ?_)
        walk_at "rs"
        have h0' := hq.1 ▸ hp
        have hqd := hq.2.2
        have hqn := hq.2.1
        have close : ∀ (ys : List D), datDs ys = true → nods ys ≤ 2 * nods xs + 4 → deps ys ≤ deps xs + 1 → N4 [some (D.mut a), some (D.lst xs), some (D.lst os), some (.int (i : Int)), some (.int way), some (.lst mid), some (.lst ys)] A4 := fun ys y1 y2 y3 => by
          refine n4 _ _ ?_
          walk_at "rs"
          refine ⟨a, b, _, 2, rfl, by decide, by decide, hs4, by omega, fun z A5 hz0 hz1 hs5 ho5 => ?_⟩
          walk_at "rs"
          by_cases hz : z = 0
          · rw [if_pos (decide_eq_true hz)]
            exact ⟨A5, Shr.refl _, h _ A5 y1 (by rw [nod]; omega) (by rw [dep]; omega) (hs5.up (by omega)) (ho4.trans ho5)⟩
          · rw [if_neg (by rw [decide_eq_false hz]; decide)]
            exact ⟨A5, Shr.refl _, h _ A5 y1 (by rw [nod]; omega) (by rw [dep]; omega) (hs5.up (by omega)) (ho4.trans ho5)⟩
        by_cases w2 : way = 2
        · rw [if_neg (by rw [decide_eq_true w2]; decide)]
          refine rList_seq rfl ?_
          walk_at "rs"
          have hpm := List.reverse_perm xs
          exact close xs.reverse (datDs_sub h0' fun y hy => hpm.mem_iff.mp hy) (by rw [nods_perm hpm]; omega) (deps_lt fun y hy => Nat.le_succ_of_le (deps_le (hpm.mem_iff.mp hy)))
        · rw [if_pos (by rw [decide_eq_false w2]; rfl)]
          refine rList_seq rfl ?_
          walk_at "rs"
          rw [cut_take]
          refine ⟨by rw [List.length_take]; omega, rList_seq rfl ?_⟩
          walk_at "rs"
          rw [show ((i : Int) + 1) = ((i + 1 : Nat) : Int) by omega, cut_drop]
          have mem1 : ∀ y ∈ xs.take i, y ∈ xs := fun y hy => List.mem_of_mem_take hy
          have mem2 : ∀ y ∈ xs.drop (i + 1), y ∈ xs := fun y hy => List.mem_of_mem_drop hy
          have m2' := m2 w2
          refine ⟨by rw [List.length_append, List.length_take, List.length_drop]; omega, close _ (datDs_app (datDs_app (datDs_sub h0' mem1) m1) (datDs_sub h0' mem2)) (by rw [nods_app, nods_app]; omega) ?_⟩
          rw [deps_app, deps_app]
          have d1 : deps (xs.take i) ≤ deps xs := deps_lt fun y hy => deps_le (mem1 y hy)
          have d2 : deps (xs.drop (i + 1)) ≤ deps xs := deps_lt fun y hy => deps_le (mem2 y hy)
          omega
      walk_at "rs"
      rw [at_nat, hxi]
      walk_at "rs"
      have h0' := hq.1 ▸ hp
      have hdm := datDs_all.mp h0' _ hmi
      have hde := deps_le hmi
      have hqd := hq.2.2
      by_cases w0 : way = 0
      · rw [if_pos (decide_eq_true w0)]
        exact ⟨by omega, fin [] A3 rfl (fun _ => by rw [nods]; omega) (by rw [deps]; omega) (by decide) (hs3.up (by omega)) ho3'⟩
      rw [if_neg (by rw [decide_eq_false w0]; decide)]
      by_cases w1 : way = 1
      · rw [if_pos (decide_eq_true w1)]
        exact ⟨by decide, fin [xs[i], xs[i]] A3 (by rw [datDs, datDs, datDs, hdm]; rfl) (fun _ => by rw [nods, nods, nods]; omega) (by rw [deps, deps, deps]; omega) (Nat.le_refl 2) (hs3.up (by omega)) ho3'⟩
      rw [if_neg (by rw [decide_eq_false w1]; decide)]
      have hnt : noT xs[i] = true := noTs_all.mp ht _ hmi
      refine ⟨a, b, _, _, os, rfl, hdm, hnt, by omega, by omega, ho1', ho2', ho, hs3, by omega, fun e A4 e1 e2 e3 hs4 ho4 => ⟨by decide, fin [e] A4 (by rw [datDs, datDs, e1]; rfl) (fun _ => by rw [nods, nods]; omega) (by rw [deps, deps]; omega) (Nat.le_succ 1) (hs4.up (by omega)) (ho3'.trans ho4)⟩⟩) (fun _ _ _ _ _ _ us hl => match us, hl with | [_, _, _], _ => rfl)
end
end K68


set_option Elab.async false
set_option linter.all false
set_option maxRecDepth 100000
set_option maxHeartbeats 4000000
namespace K68
open PySem L2 Qd
local macro_rules | `(tactic| walk_at "rd") => `(tactic| simp only [qVar_z, qVar_s, qC, qSeq, qNext, qRet, qRetN, qIfS, qTest, qIs, qOp, qUn, qAnd, qOr, qNot, qAndV, qOrV, qNotV, qCB, qCons, qNil, okQ_some, okQ_none, qIf, qChain, qI, qIC, r1_rd, r2_rd, Qd.rLen, qLc, qIt, rAllQ, rAnyQ, rSumQ, rMinQ, rMaxQ, rAbsQ, rIntQ, newL_f, newL_t, Bool.false_eq_true, if_false, qInS, qEq, qNe, qIsN, qNotN, qDrop, if_true, qDcB, qFill, kkB, qDGet, kkK, qDcK, qFzD, qAsg, tset_nm, tset_tp, tsets_nil, tsets_nm, tsets_tp, wipe_nil, wipe_cons, List.set_cons_zero, List.set_cons_succ, qRaise, qFor, qRng1, qRng2, qTup, qLst, qPar, eqD_int, eqD_str, eqD_bl, itD_lst, itD_tup, itD_dic, lenD_lst, lenD_tup, lenD_dic, dicD_dic, lstD_lst, seqD_lst, seqD_tup, qSl, qoNone, qoSome, qRevL, qLrg1, qLrg2, qCX, qKw, qKwX, List.length_cons, List.length_nil, List.map_cons, List.map_nil, qAsgG, gTupQ, gConsQ, gSubT, gNilQ, qTGet, qDcT, kkT, qNewT, qNewK, List.length_map, Int.toNat_natCast, ditD_mut, qIx_tup, qIx_lst, keysT_2, Bool.or_true, Bool.true_or, Int.zero_add, isN_tup, isN_lst, isN_int, isN_dic, isN_non, at_zero, qMeth, qAddL, qMulL, rTupQ, qCBw, qLX, qLKw, qMet, pick_0, pick_10, qFz, qFzN, qDispF, qNewF, qDictF, qpCons, qpNil, qDispB, qDispT, keyPs, obD, qEqV, gSubQ, qNegI, at4_0, at4_1, at4_2, at4_3, ix4_1, ix4_2, ix4_3])
local macro_rules | `(tactic| walk_at "rs") => `(tactic| simp only [qVar_z, qVar_s, qC, qNext, qRet, qRetN, qIfS, qTest, qIs, qOp, qUn, qAnd, qOr, qNot, qAndV, qOrV, qNotV, qCB, qCons, qNil, okQ_some, okQ_none, qIf, qChain, qI, qIC, r1_rd, r2_rd, Qd.rLen, qLc, qIt, rAllQ, rAnyQ, rSumQ, rMinQ, rMaxQ, rAbsQ, rIntQ, newL_f, newL_t, Bool.false_eq_true, if_false, qInS, qEq, qNe, qIsN, qNotN, qDrop, if_true, qDcB, qFill, kkB, qDGet, kkK, qDcK, qFzD, qAsg, tset_nm, tset_tp, tsets_nil, tsets_nm, tsets_tp, wipe_nil, wipe_cons, List.set_cons_zero, List.set_cons_succ, qRaise, qFor, qRng1, qRng2, qTup, qLst, qPar, eqD_int, eqD_str, eqD_bl, itD_lst, itD_tup, itD_dic, lenD_lst, lenD_tup, lenD_dic, dicD_dic, lstD_lst, seqD_lst, seqD_tup, qSl, qoNone, qoSome, qRevL, qLrg1, qLrg2, qCX, qKw, qKwX, List.length_cons, List.length_nil, List.map_cons, List.map_nil, qAsgG, gTupQ, gConsQ, gSubT, gNilQ, qTGet, qDcT, kkT, qNewT, qNewK, List.length_map, Int.toNat_natCast, ditD_mut, qIx_tup, qIx_lst, keysT_2, Bool.or_true, Bool.true_or, Int.zero_add, isN_tup, isN_lst, isN_int, isN_dic, isN_non, at_zero, qMeth, qAddL, qMulL, rTupQ, qCBw, qLX, qLKw, qMet, pick_0, pick_10, qFz, qFzN, qDispF, qNewF, qDictF, qpCons, qpNil, qDispB, qDispT, keyPs, obD, qEqV, gSubQ, qNegI, at4_0, at4_1, at4_2, at4_3, ix4_1, ix4_2, ix4_3])
section
variable {P : Program} {w : World} {K : PySem.W.Frag} {mg : Str → Option Value} {base : Heap}
/-! copied, so that it may change -/
def r_copR : RNQ := fun ds A P => ∃ r : List Int, ds = [.lst (r.map .int)] ∧ r.length ≤ 1000 ∧ (∀ x ∈ r, -1000000000 < x ∧ x < 1000000000) ∧ ∀ t, A t = none → P (.mut t) (A.set t (.lst (r.map .int)))
theorem d2__law_copied (Z : Nv K mg) : Def P w K mg base 3 "_law_copied" (defArgs s__law_copied) ["thing"] r_copR := mkDef Z.f__law_copied (fun f fd F => by
  have S := sc__law_copied
  refine def_okS F S (by rintro ds A P ⟨d, rfl, _⟩; rfl) fun cdv A outer s H E tb hr => ?_
  have G__law_copied := d__law_copied (P := P) (w := w) (base := base) Z 1
  have HR__law_copied := hr
  refine ⟨_, (psq_cons (psq_if (ptq_val (pq_ist1 .dic (qv 0) (pq_ty Z.b_dict) Z.b_isinstance)) (psq_one (psq_ret (pq_fzD (pq_bt (cq_dict rfl) Z.b_dict (paq_cons (pq_lc true rfl S.nd (piq_it (qv 0)) (blkOk_by (N := ["thing", "key", "some", "one"]) (sc := defScope s__law_copied) (own := [("key", 1)]) (by decide +kernel)) (fun _ _ _ _ _ => (gq_nm 1 S.nd)) (fun _ _ _ _ _ => qts_nil) (fun _ _ _ _ _ => (pq_tup (paq_cons (qv 1) (paq_cons (pq_fn G__law_copied HR__law_copied (paq_cons (pq_ix (qv 0) (qv 1)) paq_nil)) paq_nil))))) paq_nil))))) psq_nil) (psq_cons (psq_set (i := 2) S.nd (pq_if (ptq_val (pq_istN (qv 0) (.cons (c := .lst) (pq_ty Z.b_list) rfl (.cons (c := .tup) (pq_ty Z.b_tuple) rfl .nil)) Z.b_isinstance)) (pq_lc true rfl S.nd (piq_it (qv 0)) (blkOk_by (N := ["thing", "key", "some", "one"]) (sc := defScope s__law_copied) (own := [("one", 3)]) (by decide +kernel)) (fun _ _ _ _ _ => (gq_nm 3 S.nd)) (fun _ _ _ _ _ => qts_nil) (fun _ _ _ _ _ => (pq_fn G__law_copied HR__law_copied (paq_cons (qv 3) paq_nil)))) (qv 0))) (psq_one (psq_ret (pq_if (ptq_val (pq_ist1 .tup (qv 0) (pq_ty Z.b_tuple) Z.b_isinstance)) (pq_bt cq_tup Z.b_tuple (paq_cons (qv 2) paq_nil)) (qv 2)))))), ?_⟩
  rintro ds A P ⟨r, rfl, hl, hb, h⟩
  rw [show startQ ["thing", "key", "some", "one"] [D.lst (r.map D.int)] = [some (D.lst (r.map D.int)), none, none, none] from rfl]
  walk_at "rd"
  simp (decide := true) only [tyQ, okQ_some, if_false, if_true]
  refine compL_id _ (by rw [List.length_map]; omega) (fun y hy Q hQ => ?_) fun t ht => ⟨_, Shr.refl _, h t ht⟩
  walk_at "rd"
  obtain ⟨i, hi, rfl⟩ := List.mem_map.mp hy
  have := hb i hi
  exact ⟨_, rfl, by rw [datD, decide_eq_true this.1, decide_eq_true this.2]; rfl, show 1 ≤ 100000 by decide, show 0 < 1 by decide, hQ⟩) (fun _ _ _ _ _ _ us hl => match us, hl with | [_], _ => rfl)
def r_copS : RNQ := fun ds A P => ∃ rows : List (List Int), ds = [.lst (rows.map fun r => .lst (r.map .int))] ∧ rows.length ≤ 1000 ∧ (∀ r ∈ rows, r.length ≤ 1000 ∧ ∀ x ∈ r, -1000000000 < x ∧ x < 1000000000) ∧ ∀ t as A', NewR A A' t as (rows.map fun r => r.map .int) → P (.mut t) A'
theorem d3__law_copied (Z : Nv K mg) : Def P w K mg base 4 "_law_copied" (defArgs s__law_copied) ["thing"] r_copS := mkDef Z.f__law_copied (fun f fd F => by
  have S := sc__law_copied
  refine def_okS F S (by rintro ds A P ⟨d, rfl, _⟩; rfl) fun cdv A outer s H E tb hr => ?_
  have G__law_copied := d2__law_copied (P := P) (w := w) (base := base) Z
  have HR__law_copied := hr
  refine ⟨_, (psq_cons (psq_if (ptq_val (pq_ist1 .dic (qv 0) (pq_ty Z.b_dict) Z.b_isinstance)) (psq_one (psq_ret (pq_fzD (pq_bt (cq_dict rfl) Z.b_dict (paq_cons (pq_lc true rfl S.nd (piq_it (qv 0)) (blkOk_by (N := ["thing", "key", "some", "one"]) (sc := defScope s__law_copied) (own := [("key", 1)]) (by decide +kernel)) (fun _ _ _ _ _ => (gq_nm 1 S.nd)) (fun _ _ _ _ _ => qts_nil) (fun _ _ _ _ _ => (pq_tup (paq_cons (qv 1) (paq_cons (pq_fn G__law_copied HR__law_copied (paq_cons (pq_ix (qv 0) (qv 1)) paq_nil)) paq_nil))))) paq_nil))))) psq_nil) (psq_cons (psq_set (i := 2) S.nd (pq_if (ptq_val (pq_istN (qv 0) (.cons (c := .lst) (pq_ty Z.b_list) rfl (.cons (c := .tup) (pq_ty Z.b_tuple) rfl .nil)) Z.b_isinstance)) (pq_lc true rfl S.nd (piq_it (qv 0)) (blkOk_by (N := ["thing", "key", "some", "one"]) (sc := defScope s__law_copied) (own := [("one", 3)]) (by decide +kernel)) (fun _ _ _ _ _ => (gq_nm 3 S.nd)) (fun _ _ _ _ _ => qts_nil) (fun _ _ _ _ _ => (pq_fn G__law_copied HR__law_copied (paq_cons (qv 3) paq_nil)))) (qv 0))) (psq_one (psq_ret (pq_if (ptq_val (pq_ist1 .tup (qv 0) (pq_ty Z.b_tuple) Z.b_isinstance)) (pq_bt cq_tup Z.b_tuple (paq_cons (qv 2) paq_nil)) (qv 2)))))), ?_⟩
  rintro ds A P ⟨rows, rfl, hl, hb, h⟩
  rw [show startQ ["thing", "key", "some", "one"] [D.lst (rows.map fun r => D.lst (r.map D.int))] = [some (D.lst (rows.map fun r => D.lst (r.map D.int))), none, none, none] from rfl]
  walk_at "rd"
  simp (decide := true) only [tyQ, okQ_some, if_false, if_true]
  refine compL_rows (fun r : List Int => D.lst (r.map D.int)) (fun r => r.map .int) rows (by omega) (fun r hr A' ex Q hQ => ?_) fun as A' nd na ra off => newR_of (P := fun d A1 => ∃ A2, Shr A2 A1 ∧ P d A2) nd na ra off fun t B hB => ⟨_, Shr.refl _, h t as B hB⟩
  walk_at "rd"
  have := hb r hr
  exact ⟨r, rfl, this.1, this.2, hQ⟩) (fun _ _ _ _ _ _ us hl => match us, hl with | [_], _ => rfl)
/-! the least shares, so that they may change -/
def rowI (ns : List Int) (f : Nat) : List D := (List.range (ns.length - f)).map fun j => .int (cst ns f (f + j))
def r_leastM (C : Addr) : RXQ := fun ds A P x2 => ∃ d, ds = [d] ∧ ∃ kvs ns, Kept A d kvs ns ∧ ∀ t as A', NewR A A' t as ((List.range ns.length).map (rowI ns)) → P (.mut t) A'
theorem d2_least_shares (Z : Nv K mg) {C : Addr} (E_BadCounts : ErrC P w K mg base 1 "BadCounts" C "counts") : DefX P w K mg base 6 "least_shares" (defArgs s_least_shares) ["counts"] (r_leastM C) := mkDefX Z.f_least_shares (fun f fd F => by
  have S := sc_least_shares
  refine def_okXS F S (by rintro ds A P x2 ⟨d, rfl, _⟩; rfl) fun cdv A outer s H E tb x2 hr => ?_
  have G_need_counts := d_need_counts (P := P) (w := w) (base := base) Z E_BadCounts
  have HR_need_counts := hr
  have G_shares_by := d_shares_by (P := P) (w := w) (base := base) Z
  have HR_shares_by := hr.mono (show 1 ≤ 5 by decide)
  refine ⟨_, (psq_cons (psq_set (i := 1) S.nd (pq_fnX G_need_counts HR_need_counts pass_own (paq_cons (qv 0) paq_nil))) (psq_cons (psq_set (i := 2) S.nd (pq_ix (pq_fn G_shares_by HR_shares_by (paq_cons (pq_lc false rfl S.nd (piq_it (qv 1)) (blkOk_by (N := ["counts", "kept", "costs", "one", "first", "last"]) (sc := defScope s_least_shares) (own := [("one", 3)]) (by decide +kernel)) (fun _ _ _ _ _ => (gq_nm 3 S.nd)) (fun _ _ _ _ _ => qts_nil) (fun _ _ _ _ _ => (pq_dget (hu_of hr) (qv 1) (qv 3) (fun _ _ => rfl)))) paq_nil)) pq_int)) (psq_one (psq_ret (pq_lc true rfl S.nd (piq_rng1 Z.b_range (paq_cons (pq_bi cq_len Z.b_len (paq_cons (qv 1) paq_nil)) paq_nil)) (blkOk_by (N := ["counts", "kept", "costs", "one", "first", "last"]) (sc := defScope s_least_shares) (own := [("first", 4)]) (by decide +kernel)) (fun _ _ _ _ _ => (gq_nm 4 S.nd)) (fun _ _ _ _ _ => qts_nil) (fun _ _ _ _ _ => (pq_lc true rfl S.nd (piq_rng2 Z.b_range (paq_cons (qv 4) (paq_cons (pq_bi cq_len Z.b_len (paq_cons (qv 1) paq_nil)) paq_nil))) (blkOk_by (N := ["counts", "kept", "costs", "one", "first", "last"]) (own := [("last", 5)]) (blkC_relabel (by decide +kernel))) (fun _ _ _ _ _ => (gq_nm 5 S.nd)) (fun _ _ _ _ _ => qts_nil) (fun _ _ _ _ _ => (pq_tget (hu_of hr) (qv 2) (paq_cons (qv 4) (paq_cons (qv 5) paq_nil)) (fun _ _ => rfl)))))))))), ?_⟩
  rintro ds A P ⟨d, rfl, kvs, ns, ⟨e, hk, hn⟩, hP⟩
  rw [show startQ ["counts", "kept", "costs", "one", "first", "last"] [d] = [some (d), none, none, none, none, none] from rfl]
  walk_at "rd"
  refine ⟨d, rfl, ?_⟩
  refine okQ_mk e ?_
  walk_at "rd"
  have hl : kvs.length = ns.length := by
    have := mapO_length hk
    rw [List.length_map] at this
    exact this.symm
  refine compL_map (fun k => (keyD k).bind (getA kvs)) (keysD kvs) [] (by unfold keysD; rw [List.length_map]; simp; omega) (fun y _ Q hQ => ?_) (okQ_mk (nums_read hk) ?_)
  · walk_at "rd"
    cases e6 : keyD y with
    | none => rw [e6] at hQ; exact hQ.elim
    | some k =>
      rw [e6] at hQ
      exact hQ
  · refine ⟨ns, rfl, hn, fun a b kv cv ha hba hb hg => ?_⟩
    walk_at "rd"
    rw [hl]
    refine ⟨⟨by omega, by omega⟩, ?_⟩
    refine compL_rows (fun i : Nat => .int (0 + (i : Int))) (rowI ns) (List.range ns.length) (by rw [List.length_range]; omega) (fun i hi A' ex Q hQ => ?_) fun as A' nd na ra off => ?_
    · have hi := List.mem_range.mp hi
      walk_at "rd"
      refine ⟨⟨by omega, by omega⟩, ⟨by omega, by omega⟩, ?_⟩
      rw [hl, show ((ns.length : Int) - (i : Int)).toNat = ns.length - i by omega]
      refine compL_rng (fun j => .int (cst ns i (i + j))) (by omega) (fun j hj Q2 hQ2 => ?_) hQ
      walk_at "rd"
      refine ⟨by decide, ?_⟩
      rw [ex a _ (at2 hba)]
      walk_at "rd"
      rw [show ((i : Int) + (j : Int)) = ((i + j : Nat) : Int) by omega, hg i (i + j) (by omega) (by omega)]
      exact hQ2
    · have oldA : ∀ x, A x = none → x ≠ a → x ≠ b → ((A.set a (.dit kv)).set b (.dit cv)) x = A x := fun x _ h1 h2 => by rw [MH.set_ne h2, MH.set_ne h1]
      refine newR_of (P := fun d A1 => ∃ A2, Shr A2 A1 ∧ P d A2) nd na ra off fun t B hB => ?_
      have keep : ∀ {q}, ((A.set a (.dit kv)).set b (.dit cv)) q = none → q ≠ a ∧ q ≠ b ∧ A q = none := fun {q} h => by
        have q1 : q ≠ b := fun z => by rw [z, MH.set_same] at h; cases h
        rw [MH.set_ne q1] at h
        have q2 : q ≠ a := fun z => by rw [z, MH.set_same] at h; cases h
        rw [MH.set_ne q2] at h
        exact ⟨q2, q1, h⟩
      have kt := keep hB.nt
      refine ⟨(B.del a).del b, fun x o hx => ?_, hP t as _ ⟨kt.2.2, fun c hc => (keep (hB.na c hc)).2.2, hB.nd, ?_, hB.rows.off fun c hc => ?_, fun q h1 h2 => ?_⟩⟩
      · by_cases x1 : x = b
        · subst x1; rw [MH.del_same] at hx; cases hx
        · rw [MH.del_ne x1] at hx
          by_cases x2 : x = a
          · subst x2; rw [MH.del_same] at hx; cases hx
          · rw [MH.del_ne x2] at hx; exact hx
      · rw [MH.del_ne kt.2.1, MH.del_ne kt.1]; exact hB.top
      · have kc := keep (hB.na c hc)
        rw [MH.del_ne kc.2.1, MH.del_ne kc.1]
      · by_cases q1 : q = b
        · subst q1; rw [MH.del_same]; exact hb.symm
        · rw [MH.del_ne q1]
          by_cases q2 : q = a
          · subst q2; rw [MH.del_same]; exact ha.symm
          · rw [MH.del_ne q2, hB.off q h1 h2, MH.set_ne q1, MH.set_ne q2]) (fun _ _ _ _ _ _ us hl => match us, hl with | [_], _ => rfl)
end
end K68


set_option Elab.async false
set_option linter.all false
set_option maxRecDepth 100000
set_option maxHeartbeats 4000000
namespace K68
open PySem L2 Qd
local macro_rules | `(tactic| walk_at "rd") => `(tactic| simp only [qVar_z, qVar_s, qC, qSeq, qNext, qRet, qRetN, qIfS, qTest, qIs, qOp, qUn, qAnd, qOr, qNot, qAndV, qOrV, qNotV, qCB, qCons, qNil, okQ_some, okQ_none, qIf, qChain, qI, qIC, r1_rd, r2_rd, Qd.rLen, qLc, qIt, rAllQ, rAnyQ, rSumQ, rMinQ, rMaxQ, rAbsQ, rIntQ, newL_f, newL_t, Bool.false_eq_true, if_false, qInS, qEq, qNe, qIsN, qNotN, qDrop, if_true, qDcB, qFill, kkB, qDGet, kkK, qDcK, qFzD, qAsg, tset_nm, tset_tp, tsets_nil, tsets_nm, tsets_tp, wipe_nil, wipe_cons, List.set_cons_zero, List.set_cons_succ, qRaise, qFor, qRng1, qRng2, qTup, qLst, qPar, eqD_int, eqD_str, eqD_bl, itD_lst, itD_tup, itD_dic, lenD_lst, lenD_tup, lenD_dic, dicD_dic, lstD_lst, seqD_lst, seqD_tup, qSl, qoNone, qoSome, qRevL, qLrg1, qLrg2, qCX, qKw, qKwX, List.length_cons, List.length_nil, List.map_cons, List.map_nil, qAsgG, gTupQ, gConsQ, gSubT, gNilQ, qTGet, qDcT, kkT, qNewT, qNewK, List.length_map, Int.toNat_natCast, ditD_mut, qIx_tup, qIx_lst, keysT_2, Bool.or_true, Bool.true_or, Int.zero_add, isN_tup, isN_lst, isN_int, isN_dic, isN_non, at_zero, qMeth, qAddL, qMulL, rTupQ, qCBw, qLX, qLKw, qMet, pick_0, pick_10, qFz, qFzN, qDispF, qNewF, qDictF, qpCons, qpNil, qDispB, qDispT, keyPs, obD, qEqV, gSubQ, qNegI, at4_0, at4_1, at4_2, at4_3, ix4_1, ix4_2, ix4_3])
local macro_rules | `(tactic| walk_at "rs") => `(tactic| simp only [qVar_z, qVar_s, qC, qNext, qRet, qRetN, qIfS, qTest, qIs, qOp, qUn, qAnd, qOr, qNot, qAndV, qOrV, qNotV, qCB, qCons, qNil, okQ_some, okQ_none, qIf, qChain, qI, qIC, r1_rd, r2_rd, Qd.rLen, qLc, qIt, rAllQ, rAnyQ, rSumQ, rMinQ, rMaxQ, rAbsQ, rIntQ, newL_f, newL_t, Bool.false_eq_true, if_false, qInS, qEq, qNe, qIsN, qNotN, qDrop, if_true, qDcB, qFill, kkB, qDGet, kkK, qDcK, qFzD, qAsg, tset_nm, tset_tp, tsets_nil, tsets_nm, tsets_tp, wipe_nil, wipe_cons, List.set_cons_zero, List.set_cons_succ, qRaise, qFor, qRng1, qRng2, qTup, qLst, qPar, eqD_int, eqD_str, eqD_bl, itD_lst, itD_tup, itD_dic, lenD_lst, lenD_tup, lenD_dic, dicD_dic, lstD_lst, seqD_lst, seqD_tup, qSl, qoNone, qoSome, qRevL, qLrg1, qLrg2, qCX, qKw, qKwX, List.length_cons, List.length_nil, List.map_cons, List.map_nil, qAsgG, gTupQ, gConsQ, gSubT, gNilQ, qTGet, qDcT, kkT, qNewT, qNewK, List.length_map, Int.toNat_natCast, ditD_mut, qIx_tup, qIx_lst, keysT_2, Bool.or_true, Bool.true_or, Int.zero_add, isN_tup, isN_lst, isN_int, isN_dic, isN_non, at_zero, qMeth, qAddL, qMulL, rTupQ, qCBw, qLX, qLKw, qMet, pick_0, pick_10, qFz, qFzN, qDispF, qNewF, qDictF, qpCons, qpNil, qDispB, qDispT, keyPs, obD, qEqV, gSubQ, qNegI, at4_0, at4_1, at4_2, at4_3, ix4_1, ix4_2, ix4_3])
section
variable {P : Program} {w : World} {K : PySem.W.Frag} {mg : Str → Option Value} {base : Heap}
/-- symbols, as keys -/
def SymsOk (ks : List Key) : Prop := ((∃ is : List Int, ks = is.map .inl ∧ ∀ i ∈ is, 0 ≤ i ∧ i ≤ 255) ∨ ∃ ss : List Str, ks = ss.map .inr ∧ ∀ x ∈ ss, symS x = true) ∧ ks.Nodup ∧ ks ≠ []
theorem SymsOk.one {ks : List Key} (h : SymsOk ks) : OneSort ks := h.1.elim (fun ⟨is, e, _⟩ => .inl ⟨is, e⟩) fun ⟨ss, e, _⟩ => .inr ⟨ss, e⟩
theorem SymsOk.perm {ks ls : List Key} (h : SymsOk ks) (p : ls.Perm ks) : SymsOk ls := by
  refine ⟨?_, p.nodup_iff.mpr h.2.1, fun z => h.2.2 (by subst z; exact List.nil_perm.mp p)⟩
  rcases h.1 with ⟨is, rfl, hi⟩ | ⟨ss, rfl, hi⟩
  · obtain ⟨js, rfl, q⟩ := perm_map_inl p
    exact .inl ⟨js, rfl, fun i h => hi i (q.mem_iff.mp h)⟩
  · obtain ⟨js, rfl, q⟩ := perm_map_inr p
    exact .inr ⟨js, rfl, fun i h => hi i (q.mem_iff.mp h)⟩
def twelve : List Str := ["a", "b", "c", "add", "set", "jump", "z", "ab", "ba", "zero", "halt", "moveload"]
theorem twelve_sym : ∀ x ∈ twelve, symS x = true := by decide +kernel
theorem twelve_nd : twelve.Nodup := by decide +kernel
def r_syms : RNQ := fun ds A P => ∃ (a b : Addr) (k m : Nat), ds = [.mut a, .int m] ∧ 0 < m ∧ m ≤ 12 ∧ Strm A a b k ∧ k + 40 ≤ maxDraws ∧ ∀ ks A', SymsOk ks → ks.length = m → Strm A' a b (k + 40) → Off a b A A' → P (.lst (ks.map kD)) A'
theorem d__law_e_symbols (Z : Nv K mg) : Def P w K mg base 3 "_law_e_symbols" (defArgs s__law_e_symbols) ["stream", "many"] r_syms := mkDef Z.f__law_e_symbols (fun f fd F => by
  have S := sc__law_e_symbols
  refine def_okS F S (by rintro ds A P ⟨a, b, k, m, rfl, _⟩; rfl) fun cdv A outer s H E tb hr => ?_
  have G__law_draw := d__law_draw (P := P) (w := w) (base := base) Z
  have HR__law_draw := hr.mono (show 1 ≤ 2 by decide)
  have G__law_mixed := d__law_mixed (P := P) (w := w) (base := base) Z
  have HR__law_mixed := hr
  refine ⟨_, (psq_cons (psq_if (ptq_eq hr.units (pq_fn G__law_draw HR__law_draw (paq_cons (qv 0) (paq_cons pq_int paq_nil))) pq_int) (psq_one (psq_ret (pq_fn G__law_mixed HR__law_mixed (paq_cons (qv 0) (paq_cons (pq_lc false rfl S.nd (piq_rng1 Z.b_range (paq_cons (qv 1) paq_nil)) (blkOk_by (N := ["stream", "many", "k"]) (sc := defScope s__law_e_symbols) (own := [("k", 2)]) (by decide +kernel)) (fun _ _ _ _ _ => (gq_nm 2 S.nd)) (fun _ _ _ _ _ => qts_nil) (fun _ _ _ _ _ => (pq_addI (pq_mulI pq_int (qv 2)) (pq_fn G__law_draw HR__law_draw (paq_cons (qv 0) (paq_cons pq_int paq_nil)))))) paq_nil))))) psq_nil) (psq_one (psq_ret (pq_slice false (pq_fn G__law_mixed HR__law_mixed (paq_cons (qv 0) (paq_cons (pq_lst false (paq_cons pq_str (paq_cons pq_str (paq_cons pq_str (paq_cons pq_str (paq_cons pq_str (paq_cons pq_str (paq_cons pq_str (paq_cons pq_str (paq_cons pq_str (paq_cons pq_str (paq_cons pq_str (paq_cons pq_str paq_nil))))))))))))) paq_nil))) poq_none (poq_some (qv 1)))))), ?_⟩
  rintro ds A P ⟨a, b, k, m, rfl, hm0, hm1, hs, hk, h⟩
  rw [show startQ ["stream", "many", "k"] [D.mut a, D.int m] = [some (D.mut a), some (D.int m), none] from rfl]
  refine qSeq_st fun N1 n1 => ?_
  walk_at "rs"
  refine ⟨a, b, k, 2, rfl, by decide, by decide, hs, by omega, fun z A1 hz0 hz1 hs1 ho1 => ?_⟩
  walk_at "rs"
  by_cases hz : z = 0
  · rw [if_pos (decide_eq_true hz)]
    refine ⟨⟨by omega, by omega⟩, ?_⟩
    refine compL_st (fun i A' => Strm A' a b (k + 1 + i) ∧ Off a b A A') (fun i _ y => ∃ z : Int, y = .int z ∧ 3 * (i : Int) ≤ z ∧ z < 3 * (i : Int) + 3) (by rw [rngD_len]; omega) ⟨hs1, ho1⟩ ?_ ?_
    · rintro i x A' hx ⟨hs2, ho2⟩ Q hQ
      obtain ⟨hi, rfl⟩ := rngD_get hx
      rw [Int.zero_add]
      walk_at "rs"
      refine ⟨.inl ⟨by decide, by decide⟩, a, b, _, 3, rfl, by decide, by decide, hs2, by omega, fun z A2 z0 z1 hs3 ho3 => hQ _ A2 ⟨_, rfl, by omega, by omega⟩ ⟨hs3.up (by omega), ho2.trans ho3⟩⟩
    · rintro out A2 hl hr ⟨hs2, ho2⟩
      rw [rngD_len] at hl hs2
      obtain ⟨is, rfl, hi⟩ := ints_of (R := fun i z => 3 * (i : Int) ≤ z ∧ z < 3 * (i : Int) + 3) fun i y hy => hr i _ y (rngD_at (by have := (List.getElem?_eq_some_iff.mp hy).1; omega)) hy
      rw [List.length_map] at hl
      refine ⟨a, b, _, _, rfl, by rw [List.length_map]; omega, hs2, by rw [List.length_map]; omega, fun ys A3 hp hs3 ho3 => ?_⟩
      obtain ⟨js, rfl, hq⟩ := perm_map hp is rfl
      have nd : is.Nodup := nodup_get fun i j x hij h1 h2 => by
        have a1 := hi i x h1
        have a2 := hi j x h2
        omega
      refine ⟨A3, Shr.refl _, ?_⟩
      have := h (js.map .inl) A3 ⟨.inl ⟨js, rfl, fun x hx => ?_⟩, nodup_map (fun a b e => by injection e) (hq.nodup_iff.mpr nd), fun z => ?_⟩ ?_ (hs3.up (by rw [List.length_map]; omega)) (ho2.trans ho3)
      · rw [List.map_map] at this
        exact this
      · obtain ⟨i, hix⟩ := List.getElem?_of_mem (hq.mem_iff.mp hx)
        have := hi i x hix
        have := (List.getElem?_eq_some_iff.mp hix).1
        omega
      · rw [List.map_eq_nil_iff] at z
        subst z
        rw [List.nil_perm.mp hq] at hl
        simp at hl; omega
      · rw [List.length_map, hq.length_eq, hl]
  · rw [if_neg (by rw [decide_eq_false hz]; decide)]
    refine n1 _ _ ?_
    walk_at "rs"
    refine ⟨by decide, a, b, _, twelve.map .str, rfl, by decide, hs1, by rw [List.length_map]; show k + 1 + 12 < _; omega, fun ys A2 hp hs2 ho2 => ?_⟩
    obtain ⟨ss, rfl, hq⟩ := perm_map hp twelve rfl
    walk_at "rs"
    rw [cut_take, ← List.map_take]
    refine ⟨A2, Shr.refl _, ?_⟩
    have hsl : ss.length = 12 := hq.length_eq
    have := h ((ss.take m).map .inr) A2 ⟨.inr ⟨ss.take m, rfl, fun x hx => twelve_sym x (hq.mem_iff.mp (List.mem_of_mem_take hx))⟩, nodup_map (fun a b e => by injection e) ((hq.nodup_iff.mpr twelve_nd).sublist (List.take_sublist _ _)), fun z => ?_⟩ (by rw [List.length_map, List.length_take]; omega) (hs2.up (by rw [List.length_map]; show k + 1 + 12 ≤ _; omega)) (ho1.trans ho2)
    · rw [List.map_map] at this
      exact this
    · have := congrArg List.length z
      rw [List.length_map, List.length_take, List.length_nil] at this
      omega) (fun _ _ _ _ _ _ us hl => match us, hl with | [_, _], _ => rfl)
def r_shuf : RNQ := fun ds A P => ∃ (a b : Addr) (k : Nat) (ks : List Key) (v : Key → D), ds = [.mut a, .dic (tabK ks v)] ∧ OneSort ks ∧ ks ≠ [] ∧ ks.Nodup ∧ ks.length < 64 ∧ Strm A a b k ∧ k + 100 ≤ maxDraws ∧ ∀ ls A', ls.Perm ks → Strm A' a b (k + 100) → Off a b A A' → P (.dic (tabK ls v)) A'
theorem d__law_e_shuffled (Z : Nv K mg) : Def P w K mg base 3 "_law_e_shuffled" (defArgs s__law_e_shuffled) ["stream", "thing"] r_shuf := mkDef Z.f__law_e_shuffled (fun f fd F => by
  have S := sc__law_e_shuffled
  refine def_okS F S (by rintro ds A P ⟨a, b, k, ks, v, rfl, _⟩; rfl) fun cdv A outer s H E tb hr => ?_
  have G__law_mixed := d__law_mixed (P := P) (w := w) (base := base) Z
  have HR__law_mixed := hr
  refine ⟨_, (psq_one (psq_ret (pq_fzD (pq_bt (cq_dict rfl) Z.b_dict (paq_cons (pq_lc false rfl S.nd (piq_it (pq_fn G__law_mixed HR__law_mixed (paq_cons (qv 0) (paq_cons (pq_bi (cq_sorted false rfl) Z.b_sorted (paq_cons (qv 1) paq_nil)) paq_nil)))) (blkOk_by (N := ["stream", "thing", "key"]) (sc := defScope s__law_e_shuffled) (own := [("key", 2)]) (by decide +kernel)) (fun _ _ _ _ _ => (gq_nm 2 S.nd)) (fun _ _ _ _ _ => qts_nil) (fun _ _ _ _ _ => (pq_tup (paq_cons (qv 2) (paq_cons (pq_dget (hu_of hr) (qv 1) (qv 2) (fun _ _ => rfl)) paq_nil))))) paq_nil))))), ?_⟩
  rintro ds A P ⟨a, b, k, ks, v, rfl, hone, h0, hnd, hlen, hs, hk, h⟩
  rw [show startQ ["stream", "thing", "key"] [D.mut a, D.dic (tabK ks v)] = [some (D.mut a), some (D.dic (tabK ks v)), none] from rfl]
  walk_at "rd"
  refine rSort_dic (sort_tab hone h0) (by rw [tabK_length]; exact hlen) ?_
  have pk := srtK_perm hone
  have lk := pk.length_eq
  refine ⟨a, b, _, _, rfl, by rw [List.length_map]; omega, hs, by rw [List.length_map]; omega, fun ys A1 hp hs1 ho1 => ?_⟩
  obtain ⟨ls, rfl, hq⟩ := perm_map hp _ rfl
  have hq2 := hq.trans pk
  walk_at "rd"
  refine compL_of kD (fun k => .tup [kD k, v k]) ls (by have := hq2.length_eq; omega) (fun x hx Q hQ => ?_) ?_
  · walk_at "rd"
    rw [keyD_k]
    walk_at "rd"
    rw [getA_tabK (hq2.mem_iff.mp hx)]
    exact ⟨Nat.le_of_ble_eq_true rfl, hQ⟩
  · have nd2 := hq2.nodup_iff.mpr hnd
    refine rDict_lst (pairsD_tab ls) ?_
    rw [mergeA_tabK nd2]
    exact newD_fz (P := fun d A1 => ∃ A2, Shr A2 A1 ∧ P d A2) ⟨A1, Shr.refl _, h ls A1 hq2 (hs1.up (by rw [List.length_map]; omega)) ho1⟩) (fun _ _ _ _ _ _ us hl => match us, hl with | [_, _], _ => rfl)
def fib12 : List Int := [1, 1, 2, 3, 5, 8, 13, 21, 34, 55, 89, 144]
theorem fib12_ok : ∀ x ∈ fib12, 1 ≤ x ∧ x ≤ 1000 := by decide +kernel
def r_counts : RNQ := fun ds A P => ∃ (a b : Addr) (k m : Nat), ds = [.mut a, .int m] ∧ 0 < m ∧ m ≤ 12 ∧ Strm A a b k ∧ k + 100 ≤ maxDraws ∧ ∀ ks (g : Key → Int) A', SymsOk ks → ks.length ≤ m → (∀ x ∈ ks, 1 ≤ g x ∧ g x ≤ 1000) → Strm A' a b (k + 100) → Off a b A A' → P (.dic (tabK ks fun x => .int (g x))) A'
theorem d__law_e_counts (Z : Nv K mg) : Def P w K mg base 4 "_law_e_counts" (defArgs s__law_e_counts) ["stream", "most"] r_counts := mkDef Z.f__law_e_counts (fun f fd F => by
  have S := sc__law_e_counts
  refine def_okS F S (by rintro ds A P ⟨a, b, k, m, rfl, _⟩; rfl) fun cdv A outer s H E tb hr => ?_
  have G__law_draw := d__law_draw (P := P) (w := w) (base := base) Z
  have HR__law_draw := hr.mono (show 1 ≤ 3 by decide)
  have G__law_e_symbols := d__law_e_symbols (P := P) (w := w) (base := base) Z
  have HR__law_e_symbols := hr
  refine ⟨_, (psq_cons (psq_asg (pq_tup (paq_cons (pq_addI pq_int (pq_fn G__law_draw HR__law_draw (paq_cons (qv 0) (paq_cons (qv 1) paq_nil)))) (paq_cons (pq_fn G__law_draw HR__law_draw (paq_cons (qv 0) (paq_cons pq_int paq_nil))) paq_nil))) (gq_tp rfl (gqs_cons (gq_nm 2 S.nd) (gqs_cons (gq_nm 3 S.nd) gqs_nil)))) (psq_cons (psq_setLc false (i := 4) rfl S.nd (piq_rng1 Z.b_range (paq_cons (qv 2) paq_nil)) (blkOk_by (N := ["stream", "most", "many", "way", "numbers", "k"]) (sc := defScope s__law_e_counts) (own := [("k", 5)]) (by decide +kernel)) (fun _ _ _ _ _ => (gq_nm 5 S.nd)) (fun _ _ _ _ _ => qts_nil) (fun _ _ _ _ _ => (pq_addI pq_int (pq_fn G__law_draw HR__law_draw (paq_cons (qv 0) (paq_cons (pq_ix (pq_lst false (paq_cons pq_int (paq_cons pq_int (paq_cons pq_int (paq_cons pq_int paq_nil))))) (qv 3)) paq_nil))))) (sw_true rfl rfl rfl (by decide +kernel))) (psq_cons (psq_if ((pwq_and (ptq_eq hr.units (qv 3) pq_int) (pwq_and1 (ptq_eq hr.units (pq_fn G__law_draw HR__law_draw (paq_cons (qv 0) (paq_cons pq_int paq_nil))) pq_int)))).pt (psq_one (psq_setLc false (i := 4) rfl S.nd (piq_rng1 Z.b_range (paq_cons (qv 2) paq_nil)) (blkOk_by (N := ["stream", "most", "many", "way", "numbers", "k"]) (sc := defScope s__law_e_counts) (own := [("k", 5)]) (by decide +kernel)) (fun _ _ _ _ _ => (gq_nm 5 S.nd)) (fun _ _ _ _ _ => qts_nil) (fun _ _ _ _ _ => (pq_ix (pq_lst false (paq_cons pq_int (paq_cons pq_int (paq_cons pq_int (paq_cons pq_int (paq_cons pq_int (paq_cons pq_int (paq_cons pq_int (paq_cons pq_int (paq_cons pq_int (paq_cons pq_int (paq_cons pq_int (paq_cons pq_int paq_nil))))))))))))) (qv 5))) (sw_true rfl rfl rfl (by decide +kernel)))) psq_nil) (psq_one (psq_ret (pq_fzD (pq_bt (cq_dict rfl) Z.b_dict (paq_cons (pq_listZip false rfl rfl Z.b_list rfl Z.b_zip (paq_cons (pq_fn G__law_e_symbols HR__law_e_symbols (paq_cons (qv 0) (paq_cons (qv 2) paq_nil))) (paq_cons (qv 4) paq_nil))) paq_nil)))))))), ?_⟩
  rintro ds A P ⟨a, b, k, m, rfl, hm0, hm1, hs, hk, h⟩
  rw [show startQ ["stream", "most", "many", "way", "numbers", "k"] [D.mut a, D.int m] = [some (D.mut a), some (D.int m), none, none, none, none] from rfl]
  refine qSeq_st fun N1 n1 => ?_
  walk_at "rs"
  refine ⟨a, b, k, m, rfl, by omega, by omega, hs, by omega, fun z A1 hz0 hz1 hs1 ho1 => ?_⟩
  walk_at "rs"
  refine ⟨a, b, _, 4, rfl, by decide, by decide, hs1, by omega, fun way A2 hw0 hw1 hs2 ho2 => ?_⟩
  obtain ⟨y, rfl⟩ := Int.eq_ofNat_of_zero_le hz0
  obtain ⟨mn, hmn, hmn0, hmn1⟩ : ∃ mn : Nat, (1 + (y : Int)) = (mn : Int) ∧ 0 < mn ∧ mn ≤ m := ⟨1 + y, by omega, by omega, by omega⟩
  rw [hmn]
  refine ⟨by decide, n1 _ _ (qSeq_st fun N2 n2 => ?_)⟩
  walk_at "rs"
  refine ⟨⟨by omega, by omega⟩, ?_⟩
  refine compL_st (fun i A' => Strm A' a b (k + 2 + i) ∧ Off a b A A') (fun _ _ y => ∃ z : Int, y = .int z ∧ 1 ≤ z ∧ z ≤ 1000) (by rw [rngD_len]; omega) ⟨hs2.up (by omega), ho1.trans ho2⟩ ?_ ?_
  · rintro i x A' hx ⟨hs3, ho3⟩ Q hQ
    have hi := (rngD_get hx).1
    walk_at "rs"
    have go : ∀ q : Int, 0 < q → q ≤ 1000 → r_draw [.mut a, .int q] A' fun y A2 => qAddI (.int 1) y A2 Q := fun q q0 q1 =>
      ⟨a, b, _, q, rfl, q0, by omega, hs3, by omega, fun z A2 z0 z1 hs4 ho4 => hQ _ A2 ⟨_, rfl, by omega, by omega⟩ ⟨hs4.up (by omega), ho3.trans ho4⟩⟩
    have w : way = 0 ∨ way = 1 ∨ way = 2 ∨ way = 3 := by omega
    rcases w with rfl | rfl | rfl | rfl
    · rw [at4_0]; exact ⟨Nat.le_of_ble_eq_true rfl, go 9 (by decide) (by decide)⟩
    · rw [at4_1]; exact ⟨Nat.le_of_ble_eq_true rfl, go 3 (by decide) (by decide)⟩
    · rw [at4_2]; exact ⟨Nat.le_of_ble_eq_true rfl, go 100 (by decide) (by decide)⟩
    · rw [at4_3]; exact ⟨Nat.le_of_ble_eq_true rfl, go 1000 (by decide) (by decide)⟩
  · rintro out A3 hl hr ⟨hs3, ho3⟩
    rw [rngD_len] at hl hs3
    have hall : ∀ y ∈ out, ∃ z : Int, y = .int z ∧ 1 ≤ z ∧ z ≤ 1000 := fun y hy => by
      obtain ⟨i, hi⟩ := List.getElem?_of_mem hy
      exact hr i _ y (rngD_at (by have := (List.getElem?_eq_some_iff.mp hi).1; omega)) hi
    refine n2 _ _ (qSeq_st fun N3 n3 => ?_)
    have fin : ∀ ns A4, ns.length = mn → (∀ y ∈ ns, ∃ z : Int, y = .int z ∧ 1 ≤ z ∧ z ≤ 1000) → Strm A4 a b (k + 3 + mn) → Off a b A A4 → N3 [some (D.mut a), some (D.int m), some (D.int mn), some (D.int way), some (D.lst ns), none] A4 := fun ns A4 hl hall hs4 ho4 => by
      refine n3 _ _ ?_
      walk_at "rs"
      refine ⟨a, b, _, mn, rfl, hmn0, by omega, hs4, by omega, fun ks A5 hks hkl hs5 ho5 => ?_⟩
      walk_at "rs"
      obtain ⟨v, e1, e2⟩ := zip_tab (ns := ns) hks.2.1 (by omega)
      refine rDict_lst pairsD_zip ?_
      rw [e1, mergeA_tabK hks.2.1]
      refine newD_fz (P := fun d A1 => ∃ A2, Shr A2 A1 ∧ P d A2) ⟨A5, Shr.refl _, ?_⟩
      have e3 : tabK ks v = tabK ks fun x => .int (match v x with | .int i => i | _ => 0) := List.map_congr_left fun x hx => by
        obtain ⟨z, hz, _⟩ := hall _ (e2 x hx)
        show (x, v x) = (x, D.int (match v x with | .int i => i | _ => 0))
        rw [hz]
      rw [e3]
      refine h ks _ A5 hks (by omega) (fun x hx => ?_) (hs5.up (by omega)) (ho4.trans ho5)
      obtain ⟨z, hz, h1, h2⟩ := hall _ (e2 x hx)
      rw [hz]
      exact ⟨h1, h2⟩
    walk_at "rs"
    by_cases w1 : way = 1
    · rw [if_pos (decide_eq_true w1)]
      refine ⟨a, b, _, 2, rfl, by decide, by decide, hs3, by omega, fun z A4 hz0 hz1 hs4 ho4 => ?_⟩
      walk_at "rs"
      by_cases hz : z = 0
      · rw [if_pos (decide_eq_true hz)]
        refine ⟨⟨by omega, by omega⟩, compL_rng (fun i => .int (fib12.getD i 1)) (by omega) (fun i hi Q hQ => ?_) (fin _ A4 (by rw [List.length_map, List.length_range]) (fun y hy => ?_) (hs4.up (by omega)) (ho3.trans ho4))⟩
        · walk_at "rs"
          refine ⟨Nat.le_of_ble_eq_true rfl, ?_⟩
          rw [at_nat]
          show okQ ((fib12.map D.int)[i]?) _
          rw [List.getElem?_map]
          have hi2 : i < fib12.length := by show i < 12; omega
          rw [List.getElem?_eq_getElem hi2]
          rw [List.getD_eq_getElem?_getD, List.getElem?_eq_getElem hi2] at hQ
          exact hQ
        · obtain ⟨i, hi, rfl⟩ := List.mem_map.mp hy
          refine ⟨_, rfl, ?_⟩
          rw [List.getD_eq_getElem?_getD]
          cases e : fib12[i]? with
          | none => exact ⟨by decide, by decide⟩
          | some f => exact fib12_ok f (List.mem_of_getElem? e)
      · rw [if_neg (by rw [decide_eq_false hz]; decide)]
        exact fin out A4 hl hall (hs4.up (by omega)) (ho3.trans ho4)
    · rw [if_neg (by rw [decide_eq_false w1]; decide)]
      exact fin out A3 hl hall (hs3.up (by omega)) ho3) (fun _ _ _ _ _ _ us hl => match us, hl with | [_, _], _ => rfl)
end
end K68


set_option Elab.async false
set_option linter.all false
set_option maxRecDepth 100000
set_option maxHeartbeats 4000000
namespace K68
open PySem L2 Qd
local macro_rules | `(tactic| walk_at "rd") => `(tactic| simp only [qVar_z, qVar_s, qC, qSeq, qNext, qRet, qRetN, qIfS, qTest, qIs, qOp, qUn, qAnd, qOr, qNot, qAndV, qOrV, qNotV, qCB, qCons, qNil, okQ_some, okQ_none, qIf, qChain, qI, qIC, r1_rd, r2_rd, Qd.rLen, qLc, qIt, rAllQ, rAnyQ, rSumQ, rMinQ, rMaxQ, rAbsQ, rIntQ, newL_f, newL_t, Bool.false_eq_true, if_false, qInS, qEq, qNe, qIsN, qNotN, qDrop, if_true, qDcB, qFill, kkB, qDGet, kkK, qDcK, qFzD, qAsg, tset_nm, tset_tp, tsets_nil, tsets_nm, tsets_tp, wipe_nil, wipe_cons, List.set_cons_zero, List.set_cons_succ, qRaise, qFor, qRng1, qRng2, qTup, qLst, qPar, eqD_int, eqD_str, eqD_bl, itD_lst, itD_tup, itD_dic, lenD_lst, lenD_tup, lenD_dic, dicD_dic, lstD_lst, seqD_lst, seqD_tup, qSl, qoNone, qoSome, qRevL, qLrg1, qLrg2, qCX, qKw, qKwX, List.length_cons, List.length_nil, List.map_cons, List.map_nil, qAsgG, gTupQ, gConsQ, gSubT, gNilQ, qTGet, qDcT, kkT, qNewT, qNewK, List.length_map, Int.toNat_natCast, ditD_mut, qIx_tup, qIx_lst, keysT_2, Bool.or_true, Bool.true_or, Int.zero_add, isN_tup, isN_lst, isN_int, isN_dic, isN_non, at_zero, qMeth, qAddL, qMulL, rTupQ, qCBw, qLX, qLKw, qMet, pick_0, pick_10, qFz, qFzN, qDispF, qNewF, qDictF, qpCons, qpNil, qDispB, qDispT, keyPs, obD, qEqV, gSubQ, qNegI, at4_0, at4_1, at4_2, at4_3, ix4_1, ix4_2, ix4_3])
local macro_rules | `(tactic| walk_at "rs") => `(tactic| simp only [qVar_z, qVar_s, qC, qNext, qRet, qRetN, qIfS, qTest, qIs, qOp, qUn, qAnd, qOr, qNot, qAndV, qOrV, qNotV, qCB, qCons, qNil, okQ_some, okQ_none, qIf, qChain, qI, qIC, r1_rd, r2_rd, Qd.rLen, qLc, qIt, rAllQ, rAnyQ, rSumQ, rMinQ, rMaxQ, rAbsQ, rIntQ, newL_f, newL_t, Bool.false_eq_true, if_false, qInS, qEq, qNe, qIsN, qNotN, qDrop, if_true, qDcB, qFill, kkB, qDGet, kkK, qDcK, qFzD, qAsg, tset_nm, tset_tp, tsets_nil, tsets_nm, tsets_tp, wipe_nil, wipe_cons, List.set_cons_zero, List.set_cons_succ, qRaise, qFor, qRng1, qRng2, qTup, qLst, qPar, eqD_int, eqD_str, eqD_bl, itD_lst, itD_tup, itD_dic, lenD_lst, lenD_tup, lenD_dic, dicD_dic, lstD_lst, seqD_lst, seqD_tup, qSl, qoNone, qoSome, qRevL, qLrg1, qLrg2, qCX, qKw, qKwX, List.length_cons, List.length_nil, List.map_cons, List.map_nil, qAsgG, gTupQ, gConsQ, gSubT, gNilQ, qTGet, qDcT, kkT, qNewT, qNewK, List.length_map, Int.toNat_natCast, ditD_mut, qIx_tup, qIx_lst, keysT_2, Bool.or_true, Bool.true_or, Int.zero_add, isN_tup, isN_lst, isN_int, isN_dic, isN_non, at_zero, qMeth, qAddL, qMulL, rTupQ, qCBw, qLX, qLKw, qMet, pick_0, pick_10, qFz, qFzN, qDispF, qNewF, qDictF, qpCons, qpNil, qDispB, qDispT, keyPs, obD, qEqV, gSubQ, qNegI, at4_0, at4_1, at4_2, at4_3, ix4_1, ix4_2, ix4_3])
section
variable {P : Program} {w : World} {K : PySem.W.Frag} {mg : Str → Option Value} {base : Heap}
def oddL : List D := [.non, .int 5, .str "x", .lst [], .tup [], .dic [], .dic [(.inr "a", .int 0)], .dic [(.inr "a", .int (-1))], .dic [(.inr "a", .bl true)], .dic [(.inr "a", .str "1")], .dic [(.inr "a", .non)], .dic [(.inr "A", .int 1)], .dic [(.inr "", .int 1)], .dic [(.inl 256, .int 1)], .dic [(.inl (-1), .int 1)], .gdc [(.bl true, .int 1)], .dic [(.inr "a", .int 1), (.inl 1, .int 1)], .dic [(.inr "a", .int 1), (.inr "b1", .int 1)], .gdc [(.non, .int 1)], .dic [(.inr "abcdefghi", .int 2)], .dic [(.inr "a", .lst [.int 1])], .gdc [(.tup [.str "a"], .int 1)]]
def r_odds : RNQ := fun ds A P => ds = [] ∧ P (.lst oddL) A
theorem d__law_e_odd_counts (Z : Nv K mg) : Def P w K mg base 1 "_law_e_odd_counts" (defArgs s__law_e_odd_counts) [] r_odds := mkDef Z.f__law_e_odd_counts (fun f fd F => by
  have S := sc__law_e_odd_counts
  refine def_okS F S (by rintro ds A P ⟨rfl, _⟩; rfl) fun cdv A outer s H E tb hr => ⟨_, (psq_cons (psq_set (i := 0) S.nd (pq_lst false (paq_cons pq_non (paq_cons pq_int (paq_cons pq_str (paq_cons (pq_lst false paq_nil) (paq_cons (pq_tup paq_nil) (paq_cons pq_newF (paq_cons (pq_dispF (ppq_cons pq_str pq_int ppq_nil)) (paq_cons (pq_dispF (ppq_cons pq_str (pq_neg pq_int) ppq_nil)) (paq_cons (pq_dispF (ppq_cons pq_str pq_bl ppq_nil)) (paq_cons (pq_dispF (ppq_cons pq_str pq_str ppq_nil)) (paq_cons (pq_dispF (ppq_cons pq_str pq_non ppq_nil)) (paq_cons (pq_dispF (ppq_cons pq_str pq_int ppq_nil)) (paq_cons (pq_dispF (ppq_cons pq_str pq_int ppq_nil)) (paq_cons (pq_dispF (ppq_cons pq_int pq_int ppq_nil)) (paq_cons (pq_dispF (ppq_cons (pq_neg pq_int) pq_int ppq_nil)) (paq_cons (pq_dispB pq_bl pq_int) (paq_cons (pq_dispF (ppq_cons pq_str pq_int (ppq_cons pq_int pq_int ppq_nil))) paq_nil))))))))))))))))))) (psq_one (psq_ret (pq_addL false (qv 0) (pq_lst false (paq_cons (pq_dispF (ppq_cons pq_str pq_int (ppq_cons pq_str pq_int ppq_nil))) (paq_cons (pq_dispB pq_non pq_int) (paq_cons (pq_dispF (ppq_cons pq_str pq_int ppq_nil)) (paq_cons (pq_dispF (ppq_cons pq_str (pq_lst false (paq_cons pq_int paq_nil)) ppq_nil)) (paq_cons (pq_dispT (hu_of hr) (paq_cons pq_str paq_nil) pq_int) paq_nil)))))))))), ?_⟩
  rintro ds A P ⟨rfl, h⟩
  rw [show startQ ["odds"] [] = [none] from rfl]
  refine qSeq_st fun N1 n1 => ?_
  walk_at "rs"
  simp only [keyD, keysT, okQ_some]
  refine ⟨by decide, by decide, ?_⟩
  repeat' first | (with_reducible refine And.intro (by decide) ?_) | (intro q hq; clear hq; clear q)
  refine n1 _ _ ?_
  walk_at "rs"
  simp only [keyD, keysT, okQ_some]
  repeat' first | (with_reducible refine And.intro (by decide) ?_) | (intro q hq; clear hq; clear q)
  exact ⟨A, Shr.refl _, h⟩) (fun _ _ _ _ _ _ us hl => match us, hl with | [], _ => rfl)
theorem odd_kept (A : MH) : ∀ o ∈ oddL, f_kept A o = some .non := by
  intro o ho
  simp only [oddL, List.mem_cons, List.not_mem_nil, or_false] at ho
  rcases ho with rfl | rfl | rfl | rfl | rfl | rfl | rfl | rfl | rfl | rfl | rfl | rfl | rfl | rfl | rfl | rfl | rfl | rfl | rfl | rfl | rfl | rfl <;> rfl
theorem odd_pl : ∀ o ∈ oddL, plD o = true ∧ dep o ≤ 4 := by
  intro o ho
  simp only [oddL, List.mem_cons, List.not_mem_nil, or_false] at ho
  rcases ho with rfl | rfl | rfl | rfl | rfl | rfl | rfl | rfl | rfl | rfl | rfl | rfl | rfl | rfl | rfl | rfl | rfl | rfl | rfl | rfl | rfl | rfl <;> exact ⟨rfl, by decide⟩
def r_eshares : RNQ := fun ds A P => ∃ ns : List Int, ds = [.lst (ns.map .int)] ∧ ns.length ≤ 64 ∧ P (sharesD ns) A
theorem d__law_e_shares (Z : Nv K mg) : Def P w K mg base 1 "_law_e_shares" (defArgs s__law_e_shares) ["numbers"] r_eshares := mkDef Z.f__law_e_shares (fun f fd F => by
  have S := sc__law_e_shares
  refine def_okS F S (by rintro ds A P ⟨ns, rfl, _⟩; rfl) fun cdv A outer s H E tb hr => ⟨_, (psq_cons (psq_set (i := 1) S.nd (pq_lst false paq_nil)) (psq_cons (psq_for PassesOwn.never rfl (piq_it (pq_revL false (pq_lrg1 false rfl Z.b_list Z.b_range (pq_bi cq_len Z.b_len (paq_cons (qv 0) paq_nil))))) (gq_nm 2 S.nd) (psq_cons (psq_set (i := 3) S.nd (pq_lst true (paq_cons pq_int paq_nil))) (psq_cons (psq_for PassesOwn.never rfl (piq_rng2 Z.b_range (paq_cons (pq_addI (qv 2) pq_int) (paq_cons (pq_bi cq_len Z.b_len (paq_cons (qv 0) paq_nil)) paq_nil))) (gq_nm 4 S.nd) (psq_cons (psq_set (i := 5) S.nd (pq_bi (cq_sum rfl) Z.b_sum (paq_cons (pq_slice false (qv 0) (poq_some (qv 2)) (poq_some (pq_addI (qv 4) pq_int))) paq_nil))) (psq_one (psq_expr (pq_append (qv 3) (paq_cons (pq_bi (cq_min rfl) Z.b_min (paq_cons (pq_lc false rfl S.nd (piq_rng2 Z.b_range (paq_cons (qv 2) (paq_cons (qv 4) paq_nil))) (blkOk_by (N := ["numbers", "found", "first", "row", "last", "whole", "cut"]) (sc := defScope s__law_e_shares) (own := [("cut", 6)]) (by decide +kernel)) (fun _ _ _ _ _ => (gq_nm 6 S.nd)) (fun _ _ _ _ _ => qts_nil) (fun _ _ _ _ _ => (pq_addI (pq_addI (qv 5) (pq_ix (qv 3) (pq_subI (qv 6) (qv 2)))) (pq_ix (pq_ix (qv 1) (pq_subI (qv 6) (qv 2))) (pq_subI (pq_subI (qv 4) (qv 6)) pq_int))))) paq_nil)) paq_nil)))))) (psq_one (psq_set (i := 1) S.nd (pq_addL false (pq_fzN 2 (pq_lst true (paq_cons (qv 3) paq_nil))) (qv 1))))))) (psq_one (psq_ret (qv 1))))), ?_⟩
  rintro ds A P ⟨ns, rfl, hl, h⟩
  rw [show startQ ["numbers", "found", "first", "row", "last", "whole", "cut"] [D.lst (ns.map D.int)] = [some (D.lst (ns.map D.int)), none, none, none, none, none, none] from rfl]
  refine qSeq_st fun N1 n1 => ?_
  walk_at "rs"
  refine ⟨Nat.zero_le _, n1 _ _ (qSeq_st fun N2 n2 => ?_)⟩
  walk_at "rs"
  refine ⟨⟨by omega, by omega⟩, ?_⟩
  refine runL_down (fun i s' A' => ∃ x2 x3 x4 x5 x6, s' = [some (.lst (ns.map .int)), some (.lst ((List.range i).map fun j => rowD ns (ns.length - i + j))), x2, x3, x4, x5, x6] ∧ A = A') ⟨_, _, _, _, _, rfl, rfl⟩ ?_ ?_
  · rintro i s' A' N hi ⟨x2, x3, x4, x5, x6, rfl, rfl⟩ next
    walk_at "rs"
    refine qSeq_st fun N3 n3 => ?_
    walk_at "rs"
    refine ⟨by decide, fun r hr => n3 _ _ (qSeq_st fun N4 n4 => ?_)⟩
    walk_at "rs"
    obtain ⟨f, hf⟩ : ∃ f, f = ns.length - 1 - i := ⟨_, rfl⟩
    rw [← hf, show ns.length - i = f + 1 by omega]
    refine ⟨⟨by omega, by omega⟩, ⟨by omega, by omega⟩, ?_⟩
    rw [show ((ns.length : Int) - ((f : Int) + 1)).toNat = i by omega]
    refine runL_rng (fun m s' A' => ∃ x4 x5 x6, s' = [some (.lst (ns.map .int)), some (.lst ((List.range i).map fun j => rowD ns (f + 1 + j))), some (.int (f : Int)), some (.mut r), x4, x5, x6] ∧ A' = A.set r (.lst ((List.range (m + 1)).map fun j => .int (cst ns f (f + j))))) ⟨_, _, _, rfl, ?_⟩ ?_ ?_
    · rw [List.range_one, List.map_cons, List.map_nil, Nat.add_zero, cst_self ns (Nat.le_refl f)]
    · rintro m s' A' N2 hm ⟨x4, x5, x6, rfl, rfl⟩ next2
      walk_at "rs"
      refine qSeq_st fun N5 n5 => ?_
      walk_at "rs"
      rw [show ((f : Int) + 1 + (m : Int)) = ((f + 1 + m : Nat) : Int) by omega, show (((f + 1 + m : Nat) : Int) + 1) = ((f + 1 + m + 1 : Nat) : Int) by omega, cut_ints (by omega)]
      show okQ (intsD _) _
      rw [intsD_map, okQ_some]
      refine n5 _ _ ?_
      walk_at "rs"
      rw [isLm_mut MH.set_same]
      refine ⟨trivial, ⟨by omega, by omega⟩, ⟨by omega, by omega⟩, ?_⟩
      rw [show (((f + 1 + m : Nat) : Int) - (f : Int)).toNat = m + 1 by omega, show ((ns.drop f).take (f + 1 + m + 1 - f)).sum = seg ns f (f + 1 + m) from rfl]
      refine compL_rng (fun j => .int (part ns f (f + 1 + m) j)) (by omega) (fun j hj Q hQ => ?_) ?_
      · walk_at "rs"
        rw [show ((f : Int) + (j : Int) - (f : Int)) = (j : Int) by omega, qIx_mut MH.set_same, at_rng hj]
        walk_at "rs"
        rw [at_rng (by omega)]
        unfold rowD
        walk_at "rs"
        rw [show (((f + 1 + m : Nat) : Int) - ((f : Int) + (j : Int)) - 1) = ((m - j : Nat) : Int) by omega, at_rng (by omega)]
        walk_at "rs"
        rw [show f + 1 + j + (m - j) = f + 1 + m by omega, show f + 1 + j = f + j + 1 by omega]
        exact hQ
      · rw [Option.bind_some, show (List.range (m + 1)).map (fun j => D.int (part ns f (f + 1 + m) j)) = ((List.range (m + 1)).map (part ns f (f + 1 + m))).map .int from (List.map_map ..).symm, intsD_map, okQ_some]
        refine ⟨by rw [List.length_map, List.length_range]; omega, ?_⟩
        rw [app_mut MH.set_same]
        refine ⟨by rw [List.length_map, List.length_range]; omega, next2 _ _ ⟨_, _, _, rfl, ?_⟩⟩
        rw [MH.set_set]
        congr 2
        rw [List.range_succ (n := m + 1), List.map_append]
        congr 1
        rw [List.map_cons, List.map_nil, show f + (m + 1) = f + 1 + m by omega, cst_upto ns (by omega), show f + 1 + m - f = m + 1 by omega]
        rfl
    · rintro s' A' ⟨x4, x5, x6, rfl, rfl⟩
      refine n4 _ _ ?_
      walk_at "rs"
      refine ⟨by decide, fun p hp => ?_⟩
      have hpr : p ≠ r := fun z => by rw [z, MH.set_same] at hp; cases hp
      have erow : ((List.range (i + 1)).map fun j => D.int (cst ns f (f + j))) = ((List.range (i + 1)).map fun j => cst ns f (f + j)).map .int := (List.map_map ..).symm
      rw [fz_row hpr (by rw [erow]; exact plDs_ints _) MH.set_same, okQ_some]
      refine ⟨by rw [List.length_map, List.length_range]; simp; omega, next _ _ ⟨some (.int f), some (.mut r), x4, x5, x6, ?_, ?_⟩⟩
      · rw [show ns.length - (i + 1) = f by omega, rng_cons (fun j => rowD ns (f + j)), show f + 0 = f from rfl]
        have e0 : rowD ns f = .lst ((List.range (i + 1)).map fun j => D.int (cst ns f (f + j))) := by
          unfold rowD
          rw [show ns.length - f = i + 1 by omega]
        rw [e0, show (fun j => rowD ns (f + (j + 1))) = fun j => rowD ns (f + 1 + j) from funext fun j => by rw [show f + (j + 1) = f + 1 + j by omega]]
        rfl
      · show A = (((A.set r _).set p _).del p).del r
        rw [MH.del_set hp, MH.del_set hr]
  · rintro s' A' ⟨x2, x3, x4, x5, x6, rfl, rfl⟩
    refine n2 _ _ ?_
    walk_at "rs"
    refine ⟨A, Shr.refl _, ?_⟩
    rw [show (fun j => rowD ns (ns.length - ns.length + j)) = rowD ns from funext fun j => by rw [Nat.sub_self, Nat.zero_add]]
    exact h) (fun _ _ _ _ _ _ us hl => match us, hl with | [_], _ => rfl)
def r_lare : RNQ := fun ds A P => ∃ (ns : List Int) (t : D), ds = [.lst (ns.map .int), t] ∧ ns.length ≤ 64 ∧ datD t = true ∧ nod t ≤ 100000 ∧ ∀ b : Bool, (b = true ↔ Ares ns t) → P (.bl b) A
theorem isnums_all {A : MH} : ∀ {xs : List D}, plDs xs = true → (∀ i : Int, .int i ∈ xs → i < 1000000000) → ∃ bs : List Bool, (∀ (j : Nat) x b, xs[j]? = some x → bs[j]? = some b → (b = true ↔ ∃ i : Int, x = .int i ∧ 0 ≤ i ∧ i < 1000000000)) ∧ bs.length = xs.length ∧ (bs.all id = true ↔ ∃ r : List Int, xs = r.map .int ∧ ∀ x ∈ r, 0 ≤ x)
  | [], _, _ => ⟨[], fun j x b h => by simp at h, rfl, ⟨fun _ => ⟨[], rfl, fun x h => (by cases h)⟩, fun _ => rfl⟩⟩
  | x :: xs, p, hb => by
    rw [plDs, Bool.and_eq_true] at p
    obtain ⟨bs, e1, e2, h2⟩ := isnums_all (A := A) p.2 fun i hi => hb i (List.mem_cons_of_mem _ hi)
    have : ∃ b : Bool, (b = true ↔ ∃ i : Int, x = .int i ∧ 0 ≤ i) := by
      by_cases h : ∃ i : Int, x = .int i ∧ 0 ≤ i
      · exact ⟨true, fun _ => h, fun _ => rfl⟩
      · exact ⟨false, fun z => (by cases z), fun z => absurd z h⟩
    obtain ⟨b, h1⟩ := this
    refine ⟨b :: bs, fun j y c hy hc => ?_, by rw [List.length_cons, List.length_cons, e2], ?_⟩
    · cases j with
      | zero =>
        simp at hy hc
        subst hy hc
        rw [h1]
        exact ⟨fun ⟨i, e, h⟩ => ⟨i, e, h, hb i (by rw [← e]; exact List.mem_cons_self ..)⟩, fun ⟨i, e, h, _⟩ => ⟨i, e, h⟩⟩
      | succ j => exact e1 j y c (by simpa using hy) (by simpa using hc)
    · rw [List.all_cons, Bool.and_eq_true, h2]
      show b = true ∧ _ ↔ _
      rw [h1]
      constructor
      · rintro ⟨⟨i, rfl, hi⟩, r, rfl, hr⟩
        exact ⟨i :: r, rfl, fun x hx => (List.mem_cons.mp hx).elim (fun e => e ▸ hi) (hr x)⟩
      · rintro ⟨r, e, hr⟩
        cases r with
        | nil => cases e
        | cons i r =>
          injection e with e3 e4
          exact ⟨⟨i, e3, hr i (List.mem_cons_self ..)⟩, r, e4, fun x hx => hr x (List.mem_cons_of_mem _ hx)⟩
theorem d__law_are (Z : Nv K mg) : Def P w K mg base 2 "_law_are" (defArgs s__law_are) ["numbers", "thing"] r_lare := mkDef Z.f__law_are (fun f fd F => by
  have S := sc__law_are
  refine def_okS F S (by rintro ds A P ⟨ns, t, rfl, _⟩; rfl) fun cdv A outer s H E tb hr => ?_
  have G__law_is_number := d__law_is_number (P := P) (w := w) (base := base) Z
  have HR__law_is_number := hr
  refine ⟨_, (psq_cons (psq_if ((pwq_or (ptq_not (ptq_val (pq_istN (qv 1) (.cons (c := .lst) (pq_ty Z.b_list) rfl (.cons (c := .tup) (pq_ty Z.b_tuple) rfl .nil)) Z.b_isinstance))) (pwq_or1 (ptq_ne hr.units (pq_bi cq_len Z.b_len (paq_cons (qv 1) paq_nil)) (pq_bi cq_len Z.b_len (paq_cons (qv 0) paq_nil)))))).pt (psq_one (psq_ret pq_bl)) psq_nil) (psq_cons (psq_for PassesOwn.never rfl (piq_enum Z.b_enumerate (qv 1)) (gq_tp rfl (gqs_cons (gq_nm 2 S.nd) (gqs_cons (gq_nm 3 S.nd) gqs_nil))) (psq_one (psq_if ((pwq_or (ptq_not (ptq_val (pq_istN (qv 3) (.cons (c := .lst) (pq_ty Z.b_list) rfl (.cons (c := .tup) (pq_ty Z.b_tuple) rfl .nil)) Z.b_isinstance))) (pwq_or (ptq_ne hr.units (pq_bi cq_len Z.b_len (paq_cons (qv 3) paq_nil)) (pq_subI (pq_bi cq_len Z.b_len (paq_cons (qv 0) paq_nil)) (qv 2))) (pwq_or (ptq_not (ptq_val (pq_bi (cq_all rfl) Z.b_all (paq_cons (pq_lc false rfl S.nd (piq_it (qv 3)) (blkOk_by (N := ["numbers", "thing", "first", "row", "one", "last", "some", "cut"]) (sc := defScope s__law_are) (own := [("one", 4)]) (by decide +kernel)) (fun _ _ _ _ _ => (gq_nm 4 S.nd)) (fun _ _ _ _ _ => qts_nil) (fun _ _ _ _ _ => (pq_fn G__law_is_number HR__law_is_number (paq_cons (qv 4) (paq_cons (pq_powI pq_int pq_int) paq_nil))))) paq_nil)))) (pwq_or1 (ptq_ne hr.units (pq_ix (qv 3) pq_int) pq_int)))))).pt (psq_one (psq_ret pq_bl)) psq_nil))) (psq_cons (psq_for PassesOwn.never rfl (piq_rng1 Z.b_range (paq_cons (pq_bi cq_len Z.b_len (paq_cons (qv 0) paq_nil)) paq_nil)) (gq_nm 2 S.nd) (psq_one (psq_for PassesOwn.never rfl (piq_rng2 Z.b_range (paq_cons (pq_addI (qv 2) pq_int) (paq_cons (pq_bi cq_len Z.b_len (paq_cons (qv 0) paq_nil)) paq_nil))) (gq_nm 5 S.nd) (psq_cons (psq_setLc false (i := 6) rfl S.nd (piq_rng2 Z.b_range (paq_cons (qv 2) (paq_cons (qv 5) paq_nil))) (blkOk_by (N := ["numbers", "thing", "first", "row", "one", "last", "some", "cut"]) (sc := defScope s__law_are) (own := [("cut", 7)]) (by decide +kernel)) (fun _ _ _ _ _ => (gq_nm 7 S.nd)) (fun _ _ _ _ _ => qts_nil) (fun _ _ _ _ _ => (pq_addI (pq_ix (pq_ix (qv 1) (qv 2)) (pq_subI (qv 7) (qv 2))) (pq_ix (pq_ix (qv 1) (pq_addI (qv 7) pq_int)) (pq_subI (pq_subI (qv 5) (qv 7)) pq_int)))) (sw_true rfl rfl rfl (by decide +kernel))) (psq_one (psq_if (ptq_gtI (pq_ix (pq_ix (qv 1) (qv 2)) (pq_subI (qv 5) (qv 2))) (pq_addI (pq_bi (cq_sum rfl) Z.b_sum (paq_cons (pq_slice false (qv 0) (poq_some (qv 2)) (poq_some (pq_addI (qv 5) pq_int))) paq_nil)) (pq_bi (cq_min rfl) Z.b_min (paq_cons (qv 6) paq_nil)))) (psq_one (psq_ret pq_bl)) psq_nil)))))) (psq_one (psq_ret pq_bl))))), ?_⟩
  rintro ds A P ⟨ns, t, rfl, hn, dt, nt, hP⟩
  rw [show startQ ["numbers", "thing", "first", "row", "one", "last", "some", "cut"] [D.lst (ns.map D.int), t] = [some (D.lst (ns.map D.int)), some (t), none, none, none, none, none, none] from rfl]
  have pt := datD_pl dt nt
  have out : ∀ b : Bool, (b = true ↔ Ares ns t) → ∃ A2, Shr A2 A ∧ P (.bl b) A2 := fun b hb => ⟨A, Shr.refl _, hP b hb⟩
  have outF : ¬ Ares ns t → ∃ A2, Shr A2 A ∧ P (.bl false) A2 := fun hb => out false ⟨fun z => (by cases z), fun z => absurd z hb⟩
  refine qSeq_st fun N1 n1 => ?_
  walk_at "rs"
  rw [pl_ty pt, okQ_some, any_seq pt]
  cases es : seqF t with
  | none =>
    rw [if_pos (by rfl)]
    exact outF fun ⟨ds, _, z, _⟩ => by rw [es] at z; cases z
  | some ds =>
    rw [if_neg (by simp), seqF_len es, okQ_some]
    by_cases hlen : ds.length = ns.length
    case neg =>
      rw [if_pos (by rw [decide_eq_false (by omega)]; rfl)]
      exact outF fun ⟨ds', _, z, h1, _⟩ => by rw [es] at z; cases z; exact hlen h1
    rw [if_neg (by rw [decide_eq_true (by omega)]; decide)]
    refine n1 _ _ (qSeq_st fun N2 n2 => ?_)
    walk_at "rs"
    refine seqF_enum es (fun _ => rfl) ?_
    have pds := plDs_all.mp (seqF_pl es pt)
    have dds := datDs_all.mp ((datD_seq es).1 ▸ dt)
    have nds := (datD_seq es).2.1
    refine runL_ix (fun i s' A' => ∃ x2 x3 x4 x5 x6 x7 rows, s' = [some (.lst (ns.map .int)), some t, x2, x3, x4, x5, x6, x7] ∧ A = A' ∧ rows.length = i ∧ RowsOk ns.length ds rows i) ?_ ?_ ?_
    · exact ⟨_, _, _, _, _, _, [], rfl, rfl, rfl, fun i hi => absurd hi (Nat.not_lt_zero i)⟩
    · rintro i x s' A' N hx ⟨x2, x3, x4, x5, x6, x7, rows, rfl, rfl, hrl, hr⟩ next
      have hi : i < ds.length := by
        have := (List.getElem?_eq_some_iff.mp hx).1
        rwa [numL_length] at this
      obtain ⟨row, hrow⟩ : ∃ row, ds[i]? = some row := ⟨_, List.getElem?_eq_getElem hi⟩
      rw [numL_get hrow] at hx
      cases hx
      have hmem := List.mem_of_getElem? hrow
      have pr : plD row = true := pds row hmem
      have dr := dds row hmem
      have bad : (∀ r, ¬ RowOk (ns.length - i) row r) → ∃ A2, Shr A2 A ∧ P (.bl false) A2 := fun hb => outF fun ⟨ds', rows', z, _, _, h2, _⟩ => by
        rw [es] at z; cases z
        obtain ⟨d', r', h3, _, h4⟩ := h2 i (by omega)
        rw [hrow] at h3; cases h3
        exact hb r' h4
      walk_at "rd"
      rw [pl_ty pr, okQ_some, any_seq pr]
      cases er : seqF row with
      | none =>
        rw [if_pos (by rfl)]
        exact bad fun r z => by have z1 := z.1; rw [er] at z1; cases z1
      | some xs =>
        rw [if_neg (by simp), seqF_len er, okQ_some]
        by_cases hxl : xs.length = ns.length - i
        case neg =>
          rw [if_pos (by rw [decide_eq_false (by omega)]; rfl)]
          exact bad fun r z => hxl (by
            have := z.1
            rw [er] at this
            cases this
            rw [List.length_map]; exact z.2.1)
        rw [if_neg (by rw [decide_eq_true (by omega)]; decide), seqF_it er, okQ_some]
        have dxs := datDs_all.mp ((datD_seq er).1 ▸ dr)
        obtain ⟨bs, e1, e3, e2⟩ := isnums_all (A := A) (seqF_pl er pr) fun z hz => by
          have := dxs _ hz
          rw [datD, Bool.and_eq_true, decide_eq_true_eq, decide_eq_true_eq] at this
          exact this.2
        refine compL_st (fun _ A' => A = A') (fun j _ y => ∃ b, bs[j]? = some b ∧ y = .bl b) (by omega) rfl ?_ ?_
        · rintro j x A' hx rfl Q hQ
          walk_at "rd"
          refine ⟨⟨by decide, by decide⟩, x, _, rfl, plDs_all.mp (seqF_pl er pr) x (List.mem_of_getElem? hx), fun b hb => ?_⟩
          have hjb : j < bs.length := by rw [e3]; exact (List.getElem?_eq_some_iff.mp hx).1
          have h1 := e1 j x bs[j] hx (List.getElem?_eq_getElem hjb)
          have hb2 : b = bs[j] := by rw [Bool.eq_iff_iff, hb, h1]; rfl
          exact hQ _ A ⟨b, by rw [hb2]; exact List.getElem?_eq_getElem hjb, rfl⟩ rfl
        · rintro o2 A' ho hro rfl
          have eo : o2 = bs.map .bl := by
            refine List.ext_getElem? fun j => ?_
            rw [List.getElem?_map]
            by_cases hj : j < xs.length
            · obtain ⟨b, hb1, hb2⟩ := hro j _ _ (List.getElem?_eq_getElem hj) (List.getElem?_eq_getElem (by omega : j < o2.length))
              rw [hb1, List.getElem?_eq_getElem (by omega : j < o2.length), hb2]; rfl
            · rw [List.getElem?_eq_none (by omega), List.getElem?_eq_none (by omega)]; rfl
          rw [eo, show (some (bs.map D.bl)).bind blsD = some bs from blsD_map bs, okQ_some]
          cases eb : bs.all id with
          | false =>
            rw [if_pos (by rfl)]
            exact bad fun r z => by
              have z1 := z.1
              rw [er] at z1
              have := e2.mpr ⟨r, Option.some.inj z1, z.2.2.1⟩
              rw [eb] at this; cases this
          | true =>
            rw [if_neg (by decide)]
            obtain ⟨r, rfl, hr0⟩ := e2.mp eb
            rw [List.length_map] at hxl
            rw [seqF_ix er]
            cases r with
            | nil => simp at hxl; omega
            | cons r0 rs =>
              rw [List.map_cons, at_zero]
              walk_at "rd"
              by_cases hz : r0 = 0
              · subst hz
                rw [if_neg (by decide)]
                refine next _ _ ⟨_, _, _, _, _, _, rows ++ [0 :: rs], rfl, rfl, by rw [List.length_append, hrl]; rfl, fun q hq => ?_⟩
                by_cases hqi : q = i
                · subst hqi
                  exact ⟨row, 0 :: rs, hrow, by rw [← hrl, List.getElem?_append_right (Nat.le_refl _), Nat.sub_self]; rfl, er, hxl, hr0, rfl⟩
                · obtain ⟨d', r', h1, h2, h3⟩ := hr q (by omega)
                  exact ⟨d', r', h1, by rw [List.getElem?_append_left (by omega)]; exact h2, h3⟩
              · rw [if_pos (by rw [decide_eq_false hz]; rfl)]
                exact bad fun r z => by
                  have z1 := z.1
                  rw [er] at z1
                  have := map_int_inj (Option.some.inj z1)
                  subst this
                  have z2 := z.2.2.2
                  simp at z2
                  exact hz z2
    · rintro s' A' ⟨x2, x3, x4, x5, x6, x7, rows, rfl, rfl, hrl, hr⟩
      rw [numL_length, hlen] at hrl hr
      have low_iff : Ares ns t ↔ Low ns rows := by
        constructor
        · rintro ⟨ds', rows', z, _, h2, h3, h4⟩
          rw [es] at z; cases z
          have : rows' = rows := by
            refine List.ext_getElem? fun i => ?_
            by_cases hi : i < ns.length
            · obtain ⟨d1, r1, a1, a2, a3⟩ := h3 i hi
              obtain ⟨d2, r2, b1, b2, b3⟩ := hr i hi
              rw [a1] at b1; cases b1
              rw [a2, b2, a3.uniq b3]
            · rw [List.getElem?_eq_none (by omega), List.getElem?_eq_none (by omega)]
          exact this ▸ h4
        · exact fun hL => ⟨ds, rows, es, hlen, hrl, hr, hL⟩
      refine n2 _ _ (qSeq_st fun N3 n3 => ?_)
      walk_at "rs"
      refine ⟨⟨by omega, by omega⟩, ?_⟩
      refine runL_rng (fun f s' A' => ∃ x2 x3 x4 x5 x6 x7, s' = [some (.lst (ns.map .int)), some t, x2, x3, x4, x5, x6, x7] ∧ A = A' ∧ ∀ f' l j, f' < f → f' < l → l < ns.length → j < l - f' → LowAt ns rows f' l j) ?_ ?_ ?_
      · exact ⟨_, _, _, _, _, _, rfl, rfl, fun f' _ _ z => absurd z (Nat.not_lt_zero f')⟩
      · rintro f s' A' N hf ⟨x2, x3, x4, x5, x6, x7, rfl, rfl, hL⟩ next
        walk_at "rs"
        refine ⟨⟨by omega, by omega⟩, ⟨by omega, by omega⟩, ?_⟩
        rw [show ((ns.length : Int) - ((f : Int) + 1)).toNat = ns.length - (f + 1) by omega]
        refine runL_rng (fun m s' A' => ∃ x3 x4 x5 x6 x7, s' = [some (.lst (ns.map .int)), some t, some (.int (f : Int)), x3, x4, x5, x6, x7] ∧ A = A' ∧ ∀ l j, f < l → l < f + 1 + m → j < l - f → LowAt ns rows f l j) ?_ ?_ ?_
        · exact ⟨_, _, _, _, _, rfl, rfl, fun l j h1 h2 => absurd h2 (by omega)⟩
        · rintro m s' A' N2 hm ⟨x3, x4, x5, x6, x7, rfl, rfl, hL2⟩ next2
          walk_at "rs"
          refine qSeq_st fun N4 n4 => ?_
          walk_at "rs"
          rw [show ((f : Int) + 1 + (m : Int)) = ((f + 1 + m : Nat) : Int) by omega]
          refine ⟨⟨by omega, by omega⟩, ⟨by omega, by omega⟩, ?_⟩
          rw [show (((f + 1 + m : Nat) : Int) - (f : Int)).toNat = m + 1 by omega]
          refine compL_rng (fun j => .int (atR rows f j + atR rows (f + j + 1) (m - j))) (by omega) (fun j hj Q hQ => ?_) ?_
          · walk_at "rs"
            rw [seqF_ix es, show ((f : Int) + (j : Int) - (f : Int)) = (j : Int) by omega, show ((f : Int) + (j : Int) + 1) = ((f + j + 1 : Nat) : Int) by omega, show (((f + 1 + m : Nat) : Int) - ((f : Int) + (j : Int)) - 1) = ((m - j : Nat) : Int) by omega]
            refine hr.at (by omega) (by omega) ?_
            rw [seqF_ix es]
            refine hr.at (by omega) (by omega) ?_
            exact hQ
          · refine n4 _ _ ?_
            walk_at "rs"
            rw [seqF_ix es, show (((f + 1 + m : Nat) : Int) - (f : Int)) = ((m + 1 : Nat) : Int) by omega]
            refine hr.at (by omega) (by omega) ?_
            rw [show (((f + 1 + m : Nat) : Int) + 1) = ((f + 1 + m + 1 : Nat) : Int) by omega, cut_ints (by omega), Option.bind_some, intsD_map, okQ_some, Option.bind_some, show (List.range (m + 1)).map (fun j => D.int (atR rows f j + atR rows (f + j + 1) (m - j))) = ((List.range (m + 1)).map fun j => atR rows f j + atR rows (f + j + 1) (m - j)).map .int from (List.map_map ..).symm, intsD_map, okQ_some]
            have hlm : 0 < ((List.range (m + 1)).map fun j => atR rows f j + atR rows (f + j + 1) (m - j)).length := by rw [List.length_map, List.length_range]; omega
            refine ⟨hlm, ?_⟩
            obtain ⟨mm1, mm2⟩ := minI_mem hlm
            walk_at "rs"
            by_cases hgt : ((ns.drop f).take (f + 1 + m + 1 - f)).sum + minI ((List.range (m + 1)).map fun j => atR rows f j + atR rows (f + j + 1) (m - j)) < atR rows f (m + 1)
            · rw [if_pos (decide_eq_true hgt)]
              obtain ⟨j, hj, ej⟩ := List.mem_map.mp mm1
              have hj := List.mem_range.mp hj
              refine outF fun z => ?_
              have := low_iff.mp z f (f + 1 + m) j (by omega) (by omega) (by omega)
              unfold LowAt seg at this
              rw [show f + 1 + m - f = m + 1 by omega, show m + 1 - j - 1 = m - j by omega] at this
              omega
            · rw [if_neg (by rw [decide_eq_false hgt]; decide)]
              refine next2 _ _ ⟨_, _, _, _, _, rfl, rfl, fun l j h1 h2 h3 => ?_⟩
              by_cases hlm2 : l = f + 1 + m
              · subst hlm2
                unfold LowAt seg
                rw [show f + 1 + m - f = m + 1 by omega, show m + 1 - j - 1 = m - j by omega]
                have := mm2 _ (List.mem_map.mpr ⟨j, List.mem_range.mpr (by omega : j < m + 1), rfl⟩)
                omega
              · exact hL2 l j h1 (by omega) h3
        · rintro s' A' ⟨x3, x4, x5, x6, x7, rfl, rfl, hL2⟩
          refine next _ _ ⟨_, _, _, _, _, _, rfl, rfl, fun f' l j h1 h2 h3 h4 => ?_⟩
          by_cases hff : f' = f
          · subst hff
            exact hL2 l j h2 (by omega) h4
          · exact hL f' l j (by omega) h2 h3 h4
      · rintro s' A' ⟨x2, x3, x4, x5, x6, x7, rfl, rfl, hL⟩
        refine n3 _ _ ?_
        walk_at "rs"
        exact out true ⟨fun _ => low_iff.mpr fun f l j h1 h2 h3 => hL f l j (by omega) h1 h2 h3, fun _ => rfl⟩) (fun _ _ _ _ _ _ us hl => match us, hl with | [_, _], _ => rfl)
end
end K68


set_option Elab.async false
set_option linter.all false
set_option maxRecDepth 100000
set_option maxHeartbeats 4000000
namespace K68
open PySem L2 Qd
local macro_rules | `(tactic| walk_at "rd") => `(tactic| simp only [qVar_z, qVar_s, qC, qSeq, qNext, qRet, qRetN, qIfS, qTest, qIs, qOp, qUn, qAnd, qOr, qNot, qAndV, qOrV, qNotV, qCB, qCons, qNil, okQ_some, okQ_none, qIf, qChain, qI, qIC, r1_rd, r2_rd, Qd.rLen, qLc, qIt, rAllQ, rAnyQ, rSumQ, rMinQ, rMaxQ, rAbsQ, rIntQ, newL_f, newL_t, Bool.false_eq_true, if_false, qInS, qEq, qNe, qIsN, qNotN, qDrop, if_true, qDcB, qFill, kkB, qDGet, kkK, qDcK, qFzD, qAsg, tset_nm, tset_tp, tsets_nil, tsets_nm, tsets_tp, wipe_nil, wipe_cons, List.set_cons_zero, List.set_cons_succ, qRaise, qFor, qRng1, qRng2, qTup, qLst, qPar, eqD_int, eqD_str, eqD_bl, itD_lst, itD_tup, itD_dic, lenD_lst, lenD_tup, lenD_dic, dicD_dic, lstD_lst, seqD_lst, seqD_tup, qSl, qoNone, qoSome, qRevL, qLrg1, qLrg2, qCX, qKw, qKwX, List.length_cons, List.length_nil, List.map_cons, List.map_nil, qAsgG, gTupQ, gConsQ, gSubT, gNilQ, qTGet, qDcT, kkT, qNewT, qNewK, List.length_map, Int.toNat_natCast, ditD_mut, qIx_tup, qIx_lst, keysT_2, Bool.or_true, Bool.true_or, Int.zero_add, isN_tup, isN_lst, isN_int, isN_dic, isN_non, at_zero, qMeth, qAddL, qMulL, rTupQ, qCBw, qLX, qLKw, qMet, pick_0, pick_10, qFz, qFzN, qDispF, qNewF, qDictF, qpCons, qpNil, qDispB, qDispT, keyPs, obD, qEqV, gSubQ, qNegI, at4_0, at4_1, at4_2, at4_3, ix4_1, ix4_2, ix4_3])
local macro_rules | `(tactic| walk_at "rs") => `(tactic| simp only [qVar_z, qVar_s, qC, qNext, qRet, qRetN, qIfS, qTest, qIs, qOp, qUn, qAnd, qOr, qNot, qAndV, qOrV, qNotV, qCB, qCons, qNil, okQ_some, okQ_none, qIf, qChain, qI, qIC, r1_rd, r2_rd, Qd.rLen, qLc, qIt, rAllQ, rAnyQ, rSumQ, rMinQ, rMaxQ, rAbsQ, rIntQ, newL_f, newL_t, Bool.false_eq_true, if_false, qInS, qEq, qNe, qIsN, qNotN, qDrop, if_true, qDcB, qFill, kkB, qDGet, kkK, qDcK, qFzD, qAsg, tset_nm, tset_tp, tsets_nil, tsets_nm, tsets_tp, wipe_nil, wipe_cons, List.set_cons_zero, List.set_cons_succ, qRaise, qFor, qRng1, qRng2, qTup, qLst, qPar, eqD_int, eqD_str, eqD_bl, itD_lst, itD_tup, itD_dic, lenD_lst, lenD_tup, lenD_dic, dicD_dic, lstD_lst, seqD_lst, seqD_tup, qSl, qoNone, qoSome, qRevL, qLrg1, qLrg2, qCX, qKw, qKwX, List.length_cons, List.length_nil, List.map_cons, List.map_nil, qAsgG, gTupQ, gConsQ, gSubT, gNilQ, qTGet, qDcT, kkT, qNewT, qNewK, List.length_map, Int.toNat_natCast, ditD_mut, qIx_tup, qIx_lst, keysT_2, Bool.or_true, Bool.true_or, Int.zero_add, isN_tup, isN_lst, isN_int, isN_dic, isN_non, at_zero, qMeth, qAddL, qMulL, rTupQ, qCBw, qLX, qLKw, qMet, pick_0, pick_10, qFz, qFzN, qDispF, qNewF, qDictF, qpCons, qpNil, qDispB, qDispT, keyPs, obD, qEqV, gSubQ, qNegI, at4_0, at4_1, at4_2, at4_3, ix4_1, ix4_2, ix4_3])
section
variable {P : Program} {w : World} {K : PySem.W.Frag} {mg : Str → Option Value} {base : Heap}
/-! counts kept, in whatever order they are handed -/
theorem syms_ok (A : MH) {ks : List Key} (h : SymsOk ks) (hl : ks.length ≤ 100000) : symsQ A (ks.map kD) = some true := by
  unfold symsQ
  rw [if_pos (by rw [List.length_map]; exact hl)]
  have ne : ks.map kD ≠ [] := fun z => h.2.2 (List.map_eq_nil_iff.mp z)
  have one : ∀ (bs : List Bool), mapO (symQ A) (ks.map kD) = some bs → bs.all id = true → (∀ ts, mapO (tyQ A) (ks.map kD) = some ts → (ts.all (fun t => decide (t = .str)) || ts.all fun t => !decide (t = .str)) = true) → (∃ ts, mapO (tyQ A) (ks.map kD) = some ts) → (mapO (symQ A) (ks.map kD)).bind (fun bs => if ks.map kD = [] ∨ bs.all id = false then some false else (mapO (tyQ A) (ks.map kD)).map fun ts => ts.all (fun t => decide (t = .str)) || ts.all fun t => !decide (t = .str)) = some true := by
    rintro bs e1 e2 e3 ⟨ts, e4⟩
    rw [e1, Option.bind_some, if_neg (by rintro (z | z); exact ne z; rw [e2] at z; cases z), e4, Option.map_some, e3 ts e4]
  rcases h.1 with ⟨is, rfl, hi⟩ | ⟨ss, rfl, hi⟩
  · have m1 : ∀ l : List Int, (∀ i ∈ l, 0 ≤ i ∧ i ≤ 255) → mapO (symQ A) ((l.map Sum.inl).map kD) = some (l.map fun _ => true) := fun l hl => by
      rw [List.map_map]
      refine mapO_map fun i hi => ?_
      show some (decide (0 ≤ i) && decide (i ≤ 255)) = some true
      rw [decide_eq_true (hl i hi).1, decide_eq_true (hl i hi).2]; rfl
    have m2 : ∀ l : List Int, mapO (tyQ A) ((l.map Sum.inl).map kD) = some (l.map fun _ => Ty.int) := fun l => by
      rw [List.map_map]
      exact mapO_map fun i _ => rfl
    refine one _ (m1 is hi) (by simp) (fun ts e => ?_) ⟨_, m2 is⟩
    rw [m2 is] at e; cases e
    simp
  · have m1 : ∀ l : List Str, (∀ i ∈ l, symS i = true) → mapO (symQ A) ((l.map Sum.inr).map kD) = some (l.map fun _ => true) := fun l hl => by
      rw [List.map_map]
      refine mapO_map fun i hi => ?_
      have h1 := hl i hi
      show (if i.length ≤ 100000 then some (symS i) else none) = some true
      have h3 : i.length ≤ 8 := by
        unfold symS at h1
        rw [Bool.and_eq_true, Bool.and_eq_true, decide_eq_true_eq, decide_eq_true_eq] at h1
        exact h1.2.1
      rw [h1, if_pos (by omega)]
    have m2 : ∀ l : List Str, mapO (tyQ A) ((l.map Sum.inr).map kD) = some (l.map fun _ => Ty.str) := fun l => by
      rw [List.map_map]
      exact mapO_map fun i _ => rfl
    refine one _ (m1 ss hi) (by simp) (fun ts e => ?_) ⟨_, m2 ss⟩
    rw [m2 ss] at e; cases e
    simp
theorem kept_tab (A : MH) {ks ls : List Key} {g : Key → Int} (h : SymsOk ks) (hl : ks.length < 64) (p : ls.Perm ks) (hg : ∀ k ∈ ks, 1 ≤ g k) : Kept A (.dic (tabK ls fun k => .int (g k))) (tabK (srtK ks) fun k => .int (g k)) ((srtK ks).map g) := by
  have hls := h.perm p
  have ll := p.length_eq
  have pk := srtK_perm h.one
  refine ⟨?_, ?_, by rw [List.length_map, pk.length_eq]; omega⟩
  · unfold f_kept
    rw [show tyQ A (.dic (tabK ls fun k => .int (g k))) = some .dic from rfl, Option.bind_some, if_neg (by simp)]
    show ((some ((tabK ls fun k => .int (g k)).map fun p => (kD p.1, p.2))).bind _) = _
    rw [Option.bind_some]
    have e1 : ((tabK ls fun k => D.int (g k)).map fun p => (kD p.1, p.2)).map (·.1) = ls.map kD := by
      unfold tabK
      rw [List.map_map, List.map_map]; rfl
    rw [e1, syms_ok A hls (by omega), Option.bind_some, if_neg (by decide)]
    show (if (tabK ls fun k => D.int (g k)).length < 64 then _ else none) = _
    rw [if_pos (by rw [tabK_length]; omega)]
    have e2 : mapO (fun p : Key × D => (getA (tabK ls fun k => D.int (g k)) p.1).bind (posQ A)) (tabK ls fun k => D.int (g k)) = some (ls.map fun _ => true) := by
      unfold tabK
      refine mapO_map fun k hk => ?_
      show (getA (tabK ls fun k => D.int (g k)) k).bind (posQ A) = some true
      rw [getA_tabK hk, Option.bind_some]
      show some (decide (0 < g k)) = some true
      have := hg k (p.mem_iff.mp hk)
      rw [decide_eq_true (by omega)]
    rw [e2, Option.bind_some, if_neg (by simp)]
    unfold keptK
    rw [sort_tab hls.one hls.2.2, srtK_congr h.one p, Option.bind_some]
    have e3 : mapO (fun k => (getA (tabK ls fun k => D.int (g k)) k).map fun v => (k, v)) (srtK ks) = some (tabK (srtK ks) fun k => D.int (g k)) := by
      have := @mapO_map Key (Key × D) Key (fun k => (getA (tabK ls fun k => D.int (g k)) k).map fun v => (k, v)) id (fun k => (k, D.int (g k))) (srtK ks) fun k hk => by
        show (getA (tabK ls fun k => D.int (g k)) k).map _ = _
        rw [getA_tabK (p.mem_iff.mpr (pk.mem_iff.mp hk))]; rfl
      rw [List.map_id] at this
      exact this
    rw [e3, Option.map_some, mergeA_tabK (pk.nodup_iff.mpr h.2.1)]
  · show mapO (fun p : Key × D => getA (tabK (srtK ks) fun k => D.int (g k)) p.1) (tabK (srtK ks) fun k => D.int (g k)) = _
    rw [List.map_map]
    exact mapO_map fun k hk => getA_tabK hk
/-! the shares as plain data -/
theorem seg_bd {ns : List Int} {m : Int} (h : ∀ x ∈ ns, 0 ≤ x ∧ x ≤ m) (hm : 0 ≤ m) (f l : Nat) : 0 ≤ seg ns f l ∧ seg ns f l ≤ ns.length * m := by
  have key : ∀ xs : List Int, (∀ x ∈ xs, 0 ≤ x ∧ x ≤ m) → 0 ≤ xs.sum ∧ xs.sum ≤ xs.length * m := fun xs => by
    induction xs with
    | nil => intro _; simp
    | cons x xs ih =>
      intro hx
      have h1 := hx x (List.mem_cons_self ..)
      have h2 := ih fun y hy => hx y (List.mem_cons_of_mem _ hy)
      rw [List.sum_cons, List.length_cons]
      push_cast
      rw [Int.add_mul]
      omega
  have := key ((ns.drop f).take (l + 1 - f)) fun x hx => h x (List.mem_of_mem_drop (List.mem_of_mem_take hx))
  have hlen : ((ns.drop f).take (l + 1 - f)).length ≤ ns.length := by rw [List.length_take, List.length_drop]; omega
  refine ⟨this.1, Int.le_trans this.2 (Int.mul_le_mul_of_nonneg_right (by omega) hm)⟩
theorem cst_bd {ns : List Int} {m : Int} (h : ∀ x ∈ ns, 0 ≤ x ∧ x ≤ m) (hm : 0 ≤ m) : ∀ (d f l : Nat), l - f ≤ d → 0 ≤ cst ns f l ∧ cst ns f l ≤ (d : Int) * (ns.length * m)
  | 0, f, l, hd => by rw [cst_self ns (by omega)]; simp
  | d + 1, f, l, hd => by
    by_cases q : f < l
    · rw [cst_eq ns q]
      have hs := seg_bd h hm f l
      have hl : 0 < ((List.range (l - f)).map (part ns f l)).length := by rw [List.length_map, List.length_range]; omega
      obtain ⟨m1, m2⟩ := minI_mem hl
      constructor
      · obtain ⟨j, hj, e⟩ := List.mem_map.mp m1
        have hj := List.mem_range.mp hj
        rw [← e]
        unfold part
        have a1 := (cst_bd h hm d f (f + j) (by omega)).1
        have a2 := (cst_bd h hm d (f + j + 1) l (by omega)).1
        omega
      · have := m2 _ (List.mem_map.mpr ⟨0, List.mem_range.mpr (by omega : 0 < l - f), rfl⟩)
        have a2 := (cst_bd h hm d (f + 0 + 1) l (by omega)).2
        rw [show part ns f l 0 = seg ns f l + cst ns f (f + 0) + cst ns (f + 0 + 1) l from rfl, cst_self ns (l := f + 0) (Nat.le_refl f)] at this
        push_cast
        rw [Int.add_mul]
        omega
    · rw [cst_self ns (by omega)]
      refine ⟨Int.le_refl 0, Int.mul_nonneg (by omega) (Int.mul_nonneg (by omega) hm)⟩
def rowsI (ns : List Int) : List (List Int) := (List.range ns.length).map fun f => (List.range (ns.length - f)).map fun j => cst ns f (f + j)
theorem sharesD_rows (ns : List Int) : sharesD ns = .lst ((rowsI ns).map fun r => D.lst (r.map D.int)) := by
  unfold sharesD rowsI
  rw [List.map_map]
  congr 1
  refine List.map_congr_left fun f _ => ?_
  unfold rowD
  show _ = D.lst (((List.range (ns.length - f)).map fun j => cst ns f (f + j)).map D.int)
  rw [List.map_map]; rfl
theorem rowI_rows (ns : List Int) : (List.range ns.length).map (rowI ns) = (rowsI ns).map fun r => r.map D.int := by
  unfold rowsI
  rw [List.map_map]
  refine List.map_congr_left fun f _ => ?_
  show _ = ((List.range (ns.length - f)).map fun j => cst ns f (f + j)).map D.int
  rw [List.map_map]; rfl
theorem rowsI_ok {ns : List Int} (h : ∀ x ∈ ns, 0 ≤ x ∧ x ≤ 1000) (hl : ns.length ≤ 64) : (rowsI ns).length = ns.length ∧ ∀ r ∈ rowsI ns, r.length ≤ ns.length ∧ ∀ x ∈ r, 0 ≤ x ∧ x < 10000000 := by
  refine ⟨by unfold rowsI; rw [List.length_map, List.length_range], fun r hr => ?_⟩
  obtain ⟨f, hf, rfl⟩ := List.mem_map.mp hr
  refine ⟨by rw [List.length_map, List.length_range]; omega, fun x hx => ?_⟩
  obtain ⟨j, hj, rfl⟩ := List.mem_map.mp hx
  have := cst_bd h (by decide) 64 f (f + j) (by have := List.mem_range.mp hj; omega)
  refine ⟨this.1, ?_⟩
  have h3 : ((64 : Nat) : Int) * (ns.length * 1000) ≤ 64 * (64 * 1000) := by omega
  omega
theorem nods_ints : ∀ r : List Int, nods (r.map D.int) = r.length
  | [] => rfl
  | _ :: r => by
    rw [List.map_cons, nods, nods_ints r, List.length_cons]
    show 1 + r.length = _
    omega
theorem datDs_ints : ∀ {r : List Int}, (∀ x ∈ r, -1000000000 < x ∧ x < 1000000000) → datDs (r.map D.int) = true := fun {r} h =>
  datDs_all.mpr fun d hd => by
    obtain ⟨x, hx, rfl⟩ := List.mem_map.mp hd
    have := h x hx
    rw [datD, decide_eq_true this.1, decide_eq_true this.2]; rfl
theorem deps_ints : ∀ r : List Int, deps (r.map D.int) = 0
  | [] => rfl
  | _ :: r => by rw [List.map_cons, deps, deps_ints r]; rfl
theorem rows_dat : ∀ {rows : List (List Int)} {n : Nat}, (∀ r ∈ rows, r.length ≤ n ∧ ∀ x ∈ r, -1000000000 < x ∧ x < 1000000000) → datDs (rows.map fun r => D.lst (r.map D.int)) = true ∧ nods (rows.map fun r => D.lst (r.map D.int)) ≤ rows.length * (n + 1) ∧ deps (rows.map fun r => D.lst (r.map D.int)) ≤ 1 ∧ noTs (rows.map fun r => D.lst (r.map D.int)) = true
  | [], n, _ => ⟨rfl, by simp [nods], by simp [deps], rfl⟩
  | r :: rows, n, h => by
    have h1 := h r (List.mem_cons_self ..)
    obtain ⟨a1, a2, a3, a4⟩ := rows_dat fun q hq => h q (List.mem_cons_of_mem _ hq)
    have nt : noTs (r.map D.int) = true := noTs_all.mpr fun d hd => by
      obtain ⟨x, _, rfl⟩ := List.mem_map.mp hd; rfl
    refine ⟨?_, ?_, ?_, ?_⟩
    · rw [List.map_cons, datDs, a1, datD, datDs_ints h1.2]; rfl
    · rw [List.map_cons, nods, nod, nods_ints, List.length_cons, Nat.add_mul]
      omega
    · rw [List.map_cons, deps, dep, deps_ints]
      omega
    · rw [List.map_cons, noTs, a4, noT, nt]; rfl
theorem shares_dat {ns : List Int} (h : ∀ x ∈ ns, 0 ≤ x ∧ x ≤ 1000) (hl : ns.length ≤ 12) : datD (sharesD ns) = true ∧ nod (sharesD ns) ≤ 200 ∧ dep (sharesD ns) ≤ 2 ∧ noT (sharesD ns) = true := by
  obtain ⟨e1, e2⟩ := rowsI_ok h (by omega)
  obtain ⟨a1, a2, a3, a4⟩ := rows_dat (rows := rowsI ns) (n := 12) fun r hr => ⟨by have := (e2 r hr).1; omega, fun x hx => by have := (e2 r hr).2 x hx; omega⟩
  rw [sharesD_rows]
  refine ⟨a1, ?_, ?_, a4⟩
  · rw [nod]; rw [e1] at a2; omega
  · rw [dep]; omega
theorem loo_ares {d e : D} (h : Loo d e) {ns : List Int} (a : Ares ns d) : Ares ns e := by
  obtain ⟨ds, rows, h1, h2, h3, h4, h5⟩ := a
  obtain ⟨es, g1, g2⟩ := h.seqF h1
  refine ⟨es, rows, g1, by rw [← g2.length]; exact h2, h3, fun i hi => ?_, h5⟩
  obtain ⟨x, r, a1, a2, a3, a4⟩ := h4 i hi
  obtain ⟨y, b1, b2⟩ := g2.get a1
  obtain ⟨xs, c1, c2⟩ := b2.seqF a3
  refine ⟨y, r, b1, a2, ?_, a4⟩
  rw [c1]
  have key : ∀ (r : List Int) (xs : List D), Loos (r.map D.int) xs → xs = r.map D.int := fun r => by
    induction r with
    | nil => intro xs h; cases h; rfl
    | cons i r ih =>
      intro xs h
      cases h with
      | cons h1 h2 => rw [h1.noseq rfl, ih _ h2]; rfl
  rw [key r xs c2]
/-- what may be handed as a thing -/
def gd (x : D) : Prop := datD x = true ∧ nod x ≤ 1000 ∧ dep x ≤ 3
def things0 (dl : List D) (rows : List (List Int)) : List D := [D.lst dl, D.tup dl, D.lst (rows.map fun r => D.tup (r.map D.int)), D.lst (rows.map fun r => D.lst (r.map fun _ => D.int 0)), D.lst (cutD dl (some 1) none), D.lst (dl ++ [D.lst [D.int 0]]), D.lst dl.reverse, D.non, D.int 5, D.dic [], D.str "x", D.lst []]
theorem things_ok {rows : List (List Int)} {dl : List D} (hdl : dl = rows.map fun r => D.lst (r.map D.int)) (hb : ∀ r ∈ rows, r.length ≤ 12 ∧ ∀ x ∈ r, 0 ≤ x ∧ x < 10000000) (hl : rows.length ≤ 12) : ∀ x ∈ things0 dl rows, gd x := by
  obtain ⟨a1, a2, a3, _⟩ := rows_dat (rows := rows) (n := 12) fun r hr => ⟨(hb r hr).1, fun x hx => by have := (hb r hr).2 x hx; omega⟩
  have h2 : rows.length * (12 + 1) ≤ 156 := by omega
  rw [← hdl] at a1 a2 a3
  have sub : ∀ ys : List D, (∀ y ∈ ys, y ∈ dl) → nods ys ≤ 156 → gd (.lst ys) := fun ys h hn => ⟨datDs_sub a1 h, by rw [nod]; omega, by
    have : deps ys ≤ 1 := deps_lt fun y hy => Nat.le_trans (deps_le (h y hy)) a3
    rw [dep]; omega⟩
  intro x hx
  simp only [things0, List.mem_cons, List.not_mem_nil, or_false] at hx
  rcases hx with rfl | rfl | rfl | rfl | rfl | rfl | rfl | rfl | rfl | rfl | rfl | rfl
  · exact sub dl (fun y h => h) (by omega)
  · exact ⟨a1, by rw [nod]; omega, by rw [dep]; omega⟩
  · have lo : Loos dl (rows.map fun r => D.tup (r.map D.int)) := by
      rw [hdl]
      refine Loos.of (by rw [List.length_map, List.length_map]) fun i x y h1 h2 => ?_
      rw [List.getElem?_map] at h1 h2
      cases e : rows[i]? with
      | none => rw [e] at h1; cases h1
      | some r =>
        rw [e] at h1 h2
        cases h1; cases h2
        exact .seq rfl rfl (Loos.of rfl fun i x y h1 h2 => by rw [h1] at h2; cases h2; exact .same _)
    obtain ⟨b1, b2, b3⟩ := lo.dat
    exact ⟨b1.symm.trans a1, by rw [nod, ← b2]; omega, by rw [dep, ← b3]; omega⟩
  · obtain ⟨b1, b2, b3, _⟩ := rows_dat (rows := rows.map fun r => r.map fun _ => (0 : Int)) (n := 12) fun r hr => by
      obtain ⟨q, hq, rfl⟩ := List.mem_map.mp hr
      refine ⟨by rw [List.length_map]; exact (hb q hq).1, fun x hx => ?_⟩
      obtain ⟨_, _, rfl⟩ := List.mem_map.mp hx
      decide
    have e : (rows.map fun r => r.map fun _ => (0 : Int)).map (fun r => D.lst (r.map D.int)) = rows.map fun r => D.lst (r.map fun _ => D.int 0) := by
      rw [List.map_map]
      refine List.map_congr_left fun r _ => ?_
      show D.lst ((r.map fun _ => (0 : Int)).map D.int) = _
      rw [List.map_map]; rfl
    rw [e] at b1 b2 b3
    rw [List.length_map] at b2
    exact ⟨b1, by rw [nod]; omega, by rw [dep]; omega⟩
  · have e : cutD dl (some 1) none = dl.drop 1 := cut_drop (b := 1)
    rw [e]
    refine sub _ (fun y h => List.mem_of_mem_drop h) ?_
    have := congrArg nods (List.take_append_drop 1 dl)
    rw [nods_app] at this; omega
  · refine ⟨datDs_app a1 rfl, ?_, ?_⟩
    · rw [nod, nods_app]
      show nods dl + 2 + 1 ≤ 1000
      omega
    · rw [dep, deps_app]
      show max (deps dl) 1 + 1 ≤ 3
      omega
  · have hp := List.reverse_perm dl
    exact sub _ (fun y h => hp.mem_iff.mp h) (by rw [nods_perm hp]; omega)
  all_goals exact ⟨rfl, by decide, by decide⟩
/-- rows of plain flat things -/
def flt (x : D) : Prop := datD x = true ∧ nod x = 1 ∧ dep x = 0
theorem flt_row : ∀ {r : List D}, (∀ x ∈ r, flt x) → datDs r = true ∧ nods r = r.length ∧ deps r = 0
  | [], _ => ⟨rfl, rfl, rfl⟩
  | x :: r, h => by
    obtain ⟨a1, a2, a3⟩ := h x (List.mem_cons_self ..)
    obtain ⟨b1, b2, b3⟩ := flt_row fun y hy => h y (List.mem_cons_of_mem _ hy)
    exact ⟨by rw [datDs, a1, b1]; rfl, by rw [nods, a2, b2, List.length_cons]; omega, by rw [deps, a3, b3]; rfl⟩
theorem rows_flt : ∀ {rows : List (List D)} {n : Nat}, (∀ r ∈ rows, r.length ≤ n ∧ ∀ x ∈ r, flt x) → datDs (rows.map .lst) = true ∧ nods (rows.map .lst) ≤ rows.length * (n + 1) ∧ deps (rows.map .lst) ≤ 1
  | [], n, _ => ⟨rfl, by simp [nods], by simp [deps]⟩
  | r :: rows, n, h => by
    have h1 := h r (List.mem_cons_self ..)
    obtain ⟨b1, b2, b3⟩ := flt_row h1.2
    obtain ⟨a1, a2, a3⟩ := rows_flt fun q hq => h q (List.mem_cons_of_mem _ hq)
    refine ⟨?_, ?_, ?_⟩
    · rw [List.map_cons, datDs, a1, datD, b1]; rfl
    · rw [List.map_cons, nods, nod, b2, List.length_cons, Nat.add_mul]
      omega
    · rw [List.map_cons, deps, dep, b3]
      omega
theorem flt_int {i : Int} (h1 : -1000000000 < i) (h2 : i < 1000000000) : flt (.int i) := ⟨by rw [datD, decide_eq_true h1, decide_eq_true h2]; rfl, rfl, rfl⟩
theorem tab_pl {g : Key → Int} : ∀ ls : List Key, plKs (tabK ls fun x => .int (g x)) = true ∧ depK (tabK ls fun x => .int (g x)) = 0
  | [] => ⟨rfl, rfl⟩
  | k :: ls => by
    obtain ⟨h1, h2⟩ := tab_pl (g := g) ls
    constructor
    · show (plD (.int (g k)) && plKs (tabK ls fun x => .int (g x))) = true
      rw [h1]; rfl
    · show max (dep (.int (g k))) (depK (tabK ls fun x => .int (g x))) = 0
      rw [h2]; rfl
/-! the written ones at the end -/
def g3 : Key → Int := fun k => if k = .inr "b" then 5 else 1
theorem kept3 (A : MH) : ∃ kvs, Kept A (.dic (mergeA [] [(.inr "a", .int 1), (.inr "b", .int 5), (.inr "c", .int 1)])) kvs [1, 5, 1] := by
  have h := kept_tab A (ks := (["a", "b", "c"] : List Str).map .inr) (ls := (["a", "b", "c"] : List Str).map .inr) (g := g3) ⟨.inr ⟨_, rfl, by decide +kernel⟩, by decide +kernel, by decide⟩ (by decide) (.refl _) (fun k _ => by unfold g3; split <;> decide)
  have e : srtK ((["a", "b", "c"] : List Str).map .inr) = (["a", "b", "c"] : List Str).map .inr := by
    rw [srtK_strs (by decide), srtS_id (by decide +kernel)]
  rw [e] at h
  exact ⟨_, h⟩
theorem kept1 (A : MH) : ∃ kvs, Kept A (.dic (mergeA [] [(.inl 4, .int 2)])) kvs [2] := by
  have h := kept_tab A (ks := ([4] : List Int).map .inl) (ls := ([4] : List Int).map .inl) (g := fun _ => 2) ⟨.inl ⟨_, rfl, by decide⟩, by decide +kernel, by decide⟩ (by decide) (.refl _) (fun k _ => by decide)
  have e : srtK (([4] : List Int).map .inl) = ([4] : List Int).map .inl := by
    rw [srtK_ints, srtI_id (by decide)]
  rw [e] at h
  exact ⟨_, h⟩
theorem shares3 : sharesD [1, 5, 1] = .lst [.lst [.int 0, .int 6, .int 13], .lst [.int 0, .int 6], .lst [.int 0]] := by rfl
theorem ares1 : Ares [2] (.lst [.lst [.int 0]]) := ⟨_, [[0]], rfl, rfl, rfl, fun i hi => by
  have : i = 0 := Nat.lt_one_iff.mp hi
  subst this
  exact ⟨_, _, rfl, rfl, rfl, rfl, fun x hx => by rw [List.mem_singleton.mp hx]; decide, rfl⟩, fun f l j h1 h2 => by
  have : l < 1 := h2
  omega⟩
theorem ares0 : ¬ Ares [2] (.lst [.lst [.int 1]]) := fun ⟨ds, rows, h1, h2, h3, h4, h5⟩ => by
  cases h1
  obtain ⟨d, r, a1, a2, a3, a4, a5, a6⟩ := h4 0 (by decide)
  cases a1
  have : r = [1] := map_int_inj (Option.some.inj (a3.symm.trans rfl))
  subst this
  cases a6
end
end K68


set_option Elab.async false
set_option linter.all false
set_option maxRecDepth 100000
set_option maxHeartbeats 4000000
namespace K68
open PySem L2 Qd
local macro_rules | `(tactic| walk_at "rd") => `(tactic| simp only [qVar_z, qVar_s, qC, qSeq, qNext, qRet, qRetN, qIfS, qTest, qIs, qOp, qUn, qAnd, qOr, qNot, qAndV, qOrV, qNotV, qCB, qCons, qNil, okQ_some, okQ_none, qIf, qChain, qI, qIC, r1_rd, r2_rd, Qd.rLen, qLc, qIt, rAllQ, rAnyQ, rSumQ, rMinQ, rMaxQ, rAbsQ, rIntQ, newL_f, newL_t, Bool.false_eq_true, if_false, qInS, qEq, qNe, qIsN, qNotN, qDrop, if_true, qDcB, qFill, kkB, qDGet, kkK, qDcK, qFzD, qAsg, tset_nm, tset_tp, tsets_nil, tsets_nm, tsets_tp, wipe_nil, wipe_cons, List.set_cons_zero, List.set_cons_succ, qRaise, qFor, qRng1, qRng2, qTup, qLst, qPar, eqD_int, eqD_str, eqD_bl, itD_lst, itD_tup, itD_dic, lenD_lst, lenD_tup, lenD_dic, dicD_dic, lstD_lst, seqD_lst, seqD_tup, qSl, qoNone, qoSome, qRevL, qLrg1, qLrg2, qCX, qKw, qKwX, List.length_cons, List.length_nil, List.map_cons, List.map_nil, qAsgG, gTupQ, gConsQ, gSubT, gNilQ, qTGet, qDcT, kkT, qNewT, qNewK, List.length_map, Int.toNat_natCast, ditD_mut, qIx_tup, qIx_lst, keysT_2, Bool.or_true, Bool.true_or, Int.zero_add, isN_tup, isN_lst, isN_int, isN_dic, isN_non, at_zero, qMeth, qAddL, qMulL, rTupQ, qCBw, qLX, qLKw, qMet, pick_0, pick_10, qFz, qFzN, qDispF, qNewF, qDictF, qpCons, qpNil, qDispB, qDispT, keyPs, obD, qEqV, gSubQ, qNegI, at4_0, at4_1, at4_2, at4_3, ix4_1, ix4_2, ix4_3])
local macro_rules | `(tactic| walk_at "rs") => `(tactic| simp only [qVar_z, qVar_s, qC, qNext, qRet, qRetN, qIfS, qTest, qIs, qOp, qUn, qAnd, qOr, qNot, qAndV, qOrV, qNotV, qCB, qCons, qNil, okQ_some, okQ_none, qIf, qChain, qI, qIC, r1_rd, r2_rd, Qd.rLen, qLc, qIt, rAllQ, rAnyQ, rSumQ, rMinQ, rMaxQ, rAbsQ, rIntQ, newL_f, newL_t, Bool.false_eq_true, if_false, qInS, qEq, qNe, qIsN, qNotN, qDrop, if_true, qDcB, qFill, kkB, qDGet, kkK, qDcK, qFzD, qAsg, tset_nm, tset_tp, tsets_nil, tsets_nm, tsets_tp, wipe_nil, wipe_cons, List.set_cons_zero, List.set_cons_succ, qRaise, qFor, qRng1, qRng2, qTup, qLst, qPar, eqD_int, eqD_str, eqD_bl, itD_lst, itD_tup, itD_dic, lenD_lst, lenD_tup, lenD_dic, dicD_dic, lstD_lst, seqD_lst, seqD_tup, qSl, qoNone, qoSome, qRevL, qLrg1, qLrg2, qCX, qKw, qKwX, List.length_cons, List.length_nil, List.map_cons, List.map_nil, qAsgG, gTupQ, gConsQ, gSubT, gNilQ, qTGet, qDcT, kkT, qNewT, qNewK, List.length_map, Int.toNat_natCast, ditD_mut, qIx_tup, qIx_lst, keysT_2, Bool.or_true, Bool.true_or, Int.zero_add, isN_tup, isN_lst, isN_int, isN_dic, isN_non, at_zero, qMeth, qAddL, qMulL, rTupQ, qCBw, qLX, qLKw, qMet, pick_0, pick_10, qFz, qFzN, qDispF, qNewF, qDictF, qpCons, qpNil, qDispB, qDispT, keyPs, obD, qEqV, gSubQ, qNegI, at4_0, at4_1, at4_2, at4_3, ix4_1, ix4_2, ix4_3])
section
variable {P : Program} {w : World} {K : PySem.W.Frag} {mg : Str → Option Value} {base : Heap}
theorem kw_least : KwOk (defArgs s_least_shares) ["counts"] ["counts"] [0] := fun _ _ _ _ _ _ _ _ _ _ ws h => match ws, h with
  | _ :: _, _ => rfl
  | [], h => by cases h
theorem kw_are : KwOk (defArgs s_are_shares) ["counts", "thing"] ["thing", "counts"] [1, 0] := fun _ _ _ _ _ _ _ _ _ _ ws h => match ws, h with
  | _ :: _ :: _, _ => rfl
  | [_], h => by cases h
  | [], h => by cases h
abbrev kw_least_shares_0 := @kw_least
abbrev kw_are_shares_10 := @kw_are
def oddsL : List D := [.non, .bl true, .int (-1), .int 0, .int 1, .int 5, .int 99, .str "0", .lst [], .tup [], .lst [.int 0], .lst [.int 0, .int 1]]
theorem oddsL_ok : ∀ o ∈ oddsL, datD o = true ∧ nod o ≤ 3 ∧ dep o ≤ 1 := by
  intro o ho
  simp only [oddsL, List.mem_cons, List.not_mem_nil, or_false] at ho
  rcases ho with rfl | rfl | rfl | rfl | rfl | rfl | rfl | rfl | rfl | rfl | rfl | rfl <;> exact ⟨rfl, by decide, by decide⟩
def r_law : RNQ := fun ds A P => ∃ ns : List Int, ds = [.frl (ns.map .int)] ∧ ns.length ≤ 63 ∧ ∀ A', P (.bl true) A'
theorem fn_law (Z : Nv K mg) {C c Pt : Addr} (E_BadCounts : ErrC P w K mg base 1 "BadCounts" C "counts") (xf : XfC K C) (hno : PySem.W.findIn K (.ref C) "counts" = some none) (hex : PySem.W.exmOne K (.ref C) (.ref C) = some true)
    {f : Addr} {oc : Value} {od an : Option Addr} {osl : Array (Option Value)} {kV doc pm ct : Value} (lk : K.lookup f = some ⟨oc, od, .func (PySem.W.fnOf "law" "law" (defArgs s_law) (defBody s_law) (defScope s_law) .none kV doc pm an (.ref c) ct), osl⟩) (hcd : PySem.W.codeIn K (.ref c) "law" = true)
    (TB : LamX.TabB base mg c Pt) : FnOk P w K mg base CX0 15 f (PySem.W.fnOf "law" "law" (defArgs s_law) (defBody s_law) (defScope s_law) .none kV doc pm an (.ref c) ct) ["script"] (liftSpT K [(Pt, "law.<locals>.<lambda>")] r_law) := by
  have S := sc_law
  refine def_okT lk hcd S (by rintro ds A P ⟨ns, rfl, _⟩; rfl) fun A outer s H E hr => ?_
  have G__law_stream := d__law_stream (P := P) (w := w) (base := base) Z
  have HR__law_stream := hr.mono (show 1 ≤ 14 by decide)
  have G__law_e_counts := d__law_e_counts (P := P) (w := w) (base := base) Z
  have HR__law_e_counts := hr.mono (show 4 ≤ 14 by decide)
  have G__law_e_shuffled := d__law_e_shuffled (P := P) (w := w) (base := base) Z
  have HR__law_e_shuffled := hr.mono (show 3 ≤ 14 by decide)
  have G__law_e_shares := d__law_e_shares (P := P) (w := w) (base := base) Z
  have HR__law_e_shares := hr.mono (show 1 ≤ 14 by decide)
  have G_least_shares := d_least_shares (P := P) (w := w) (base := base) Z E_BadCounts
  have G_least2 := d2_least_shares (P := P) (w := w) (base := base) Z E_BadCounts
  have HR_least_shares := hr.mono (show 6 ≤ 14 by decide)
  have HR_least2 := HR_least_shares
  have G_are_shares := d_are_shares (P := P) (w := w) (base := base) Z E_BadCounts
  have HR_are_shares := hr.mono (show 6 ≤ 14 by decide)
  have G__law_same := d__law_same (P := P) (w := w) (base := base) Z 12
  have HR__law_same := hr.mono (show 13 ≤ 14 by decide)
  have G__law_copied := d__law_copied (P := P) (w := w) (base := base) Z 8
  have G_copied2 := d3__law_copied (P := P) (w := w) (base := base) Z
  have HR__law_copied := hr.mono (show 9 ≤ 14 by decide)
  have HR_copied2 := hr.mono (show 4 ≤ 14 by decide)
  have G__law_loose := d__law_loose (P := P) (w := w) (base := base) Z 8
  have HR__law_loose := hr.mono (show 10 ≤ 14 by decide)
  have G__law_e_bent := d__law_e_bent (P := P) (w := w) (base := base) Z 3
  have HR__law_e_bent := hr.mono (show 6 ≤ 14 by decide)
  have G__law_pick := d__law_pick (P := P) (w := w) (base := base) Z
  have HR__law_pick := hr.mono (show 2 ≤ 14 by decide)
  have G__law_draw := d__law_draw (P := P) (w := w) (base := base) Z
  have HR__law_draw := hr.mono (show 1 ≤ 14 by decide)
  have G__law_are := d__law_are (P := P) (w := w) (base := base) Z
  have HR__law_are := hr.mono (show 2 ≤ 14 by decide)
  have G__law_e_odd_counts := d__law_e_odd_counts (P := P) (w := w) (base := base) Z
  have HR__law_e_odd_counts := hr.mono (show 1 ≤ 14 by decide)
  obtain ⟨g, fdg, Fg, mgg⟩ := Z.f__law_met
  obtain ⟨ocg, odg, kVg, docg, pmg, ang, cdvg, ctg, oslg, rfl, lkg, hcg⟩ := Fg.ex
  have hbg := Fg.binds (ps := ["ask"]) (fun _ _ _ _ _ _ us hl => match us, hl with | [_], _ => rfl)
  refine ⟨_, (psq_cons (psq_set (i := 1) S.nd (pq_fn G__law_stream HR__law_stream (paq_cons (qv 0) paq_nil))) (psq_cons (psq_set (i := 2) S.nd (pq_lst false (paq_cons pq_non (paq_cons pq_bl (paq_cons (pq_neg pq_int) (paq_cons pq_int (paq_cons pq_int (paq_cons pq_int (paq_cons pq_int (paq_cons pq_str (paq_cons (pq_lst false paq_nil) (paq_cons (pq_tup paq_nil) (paq_cons (pq_lst false (paq_cons pq_int paq_nil)) (paq_cons (pq_lst false (paq_cons pq_int (paq_cons pq_int paq_nil))) paq_nil)))))))))))))) (psq_cons (psq_for PassesOwn.never rfl (piq_rng1 Z.b_range (paq_cons pq_int paq_nil)) (gq_nm 3 S.nd) (psq_cons (psq_set (i := 4) S.nd (pq_fn G__law_e_counts HR__law_e_counts (paq_cons (qv 1) (paq_cons pq_int paq_nil)))) (psq_cons (psq_par (i := 5) (j := 6) rfl S.nd (by decide) (paq_cons (pq_fn G__law_e_shuffled HR__law_e_shuffled (paq_cons (qv 1) (paq_cons (qv 4) paq_nil))) (paq_cons (pq_lc false rfl S.nd (piq_it (pq_bi (cq_sorted false rfl) Z.b_sorted (paq_cons (qv 4) paq_nil))) (blkOk_by (N := ["script", "stream", "odds", "turn", "counts", "handed", "numbers", "one", "was", "due", "told", "nought", "row", "things", "k", "other", "at", "thing", "own", "is_due", "odd"]) (sc := defScope s_law) (own := [("one", 7)]) (by decide +kernel)) (fun _ _ _ _ _ => (gq_nm 7 S.nd)) (fun _ _ _ _ _ => qts_nil) (fun _ _ _ _ _ => (pq_dget (hu_of hr) (qv 4) (qv 7) (fun _ _ => rfl)))) paq_nil))) (psq_cons (psq_asg (pq_tup (paq_cons (pq_dictF (pq_bt (cq_dict rfl) Z.b_dict (paq_cons (qv 5) paq_nil))) (paq_cons (pq_fn G__law_e_shares HR__law_e_shares (paq_cons (qv 6) paq_nil)) paq_nil))) (gq_tp rfl (gqs_cons (gq_nm 8 S.nd) (gqs_cons (gq_nm 9 S.nd) gqs_nil)))) (psq_cons (psq_set (i := 10) S.nd (pq_fnX G_least2 HR_least2 (pass_nox (CX := CX0) (fun _ _ z => z) rfl) (paq_cons (qv 5) paq_nil))) (psq_cons (psq_if (ptq_not (ptq_val (pq_fnw 3 G__law_same HR__law_same (paq_cons (pq_lst false (paq_cons (qv 10) (paq_cons (pq_kwX (perm := [0]) G_least_shares HR_least_shares (pass_nox (CX := CX0) (fun _ _ z => z) rfl) (pkq_cons (pq_dictF (pq_bt (cq_dict rfl) Z.b_dict (paq_cons (qv 4) paq_nil))) pkq_nil) kw_least_shares_0) paq_nil))) (paq_cons (pq_lst false (paq_cons (qv 9) (paq_cons (qv 9) paq_nil))) paq_nil))))) (psq_one (psq_ret pq_bl)) psq_nil) (psq_cons (psq_expr (pq_append (pq_ix (qv 10) pq_int) (paq_cons pq_str paq_nil))) (psq_cons (psq_expr (pq_append (qv 10) (paq_cons pq_str paq_nil))) (psq_cons (psq_setLc false (i := 11) rfl S.nd (piq_it (qv 9)) (blkOk_by (N := ["script", "stream", "odds", "turn", "counts", "handed", "numbers", "one", "was", "due", "told", "nought", "row", "things", "k", "other", "at", "thing", "own", "is_due", "odd"]) (sc := defScope s_law) (own := [("row", 12)]) (by decide +kernel)) (fun _ _ _ _ _ => (gq_nm 12 S.nd)) (fun _ _ _ _ _ => qts_nil) (fun _ _ _ _ _ => (pq_lc false rfl S.nd (piq_it (qv 12)) (blkOk_by (N := ["script", "stream", "odds", "turn", "counts", "handed", "numbers", "one", "was", "due", "told", "nought", "row", "things", "k", "other", "at", "thing", "own", "is_due", "odd"]) (own := [("one", 7)]) (blkC_relabel (by decide +kernel))) (fun _ _ _ _ _ => (gq_nm 7 S.nd)) (fun _ _ _ _ _ => qts_nil) (fun _ _ _ _ _ => pq_int))) (sw_true rfl rfl rfl (by decide +kernel))) (psq_cons (psq_set (i := 13) S.nd (pq_lst true (paq_cons (qv 9) (paq_cons (pq_bt cq_tup Z.b_tuple (paq_cons (qv 9) paq_nil)) (paq_cons (pq_lc false rfl S.nd (piq_it (qv 9)) (blkOk_by (N := ["script", "stream", "odds", "turn", "counts", "handed", "numbers", "one", "was", "due", "told", "nought", "row", "things", "k", "other", "at", "thing", "own", "is_due", "odd"]) (sc := defScope s_law) (own := [("row", 12)]) (by decide +kernel)) (fun _ _ _ _ _ => (gq_nm 12 S.nd)) (fun _ _ _ _ _ => qts_nil) (fun _ _ _ _ _ => (pq_bt cq_tup Z.b_tuple (paq_cons (qv 12) paq_nil)))) (paq_cons (qv 11) (paq_cons (pq_slice false (qv 9) (poq_some pq_int) poq_none) (paq_cons (pq_addL false (qv 9) (pq_lst false (paq_cons (pq_lst false (paq_cons pq_int paq_nil)) paq_nil))) (paq_cons (pq_revL false (qv 9)) (paq_cons pq_non (paq_cons pq_int (paq_cons pq_newF (paq_cons pq_str (paq_cons (pq_lst false paq_nil) paq_nil)))))))))))))) (psq_cons (psq_for PassesOwn.never rfl (piq_rng1 Z.b_range (paq_cons pq_int paq_nil)) (gq_nm 14 S.nd) (psq_cons (psq_set (i := 15) S.nd (pq_fn G_copied2 HR_copied2 (paq_cons (qv 9) paq_nil))) (psq_cons (psq_set (i := 12) S.nd (pq_fn G__law_pick HR__law_pick (paq_cons (qv 1) (paq_cons (qv 15) paq_nil)))) (psq_cons (psq_set (i := 16) S.nd (pq_fn G__law_draw HR__law_draw (paq_cons (qv 1) (paq_cons (pq_bi cq_len Z.b_len (paq_cons (qv 12) paq_nil)) paq_nil)))) (psq_cons (psq_asgG (pq_fn G__law_pick HR__law_pick (paq_cons (qv 1) (paq_cons (pq_lst false (paq_cons (pq_addI (pq_ix (qv 12) (qv 16)) pq_int) (paq_cons (pq_subI (pq_ix (qv 12) (qv 16)) pq_int) (paq_cons pq_int (paq_cons (pq_neg pq_int) (paq_cons pq_non (paq_cons pq_bl paq_nil))))))) paq_nil))) (ptg_sub setRel_L set_list (qv 12) (qv 16))) (psq_one (psq_expr (pq_append (qv 13) (paq_cons (pq_fzN 2 (qv 15)) paq_nil))))))))) (psq_cons (psq_for PassesOwn.never rfl (piq_it (pq_addL false (pq_fz (qv 13)) (pq_lc false rfl S.nd (piq_rng1 Z.b_range (paq_cons pq_int paq_nil)) (blkOk_by (N := ["script", "stream", "odds", "turn", "counts", "handed", "numbers", "one", "was", "due", "told", "nought", "row", "things", "k", "other", "at", "thing", "own", "is_due", "odd"]) (sc := defScope s_law) (own := [("k", 14)]) (by decide +kernel)) (fun _ _ _ _ _ => (gq_nm 14 S.nd)) (fun _ _ _ _ _ => qts_nil) (fun _ _ _ _ _ => (pq_fn G__law_e_bent HR__law_e_bent (paq_cons (qv 1) (paq_cons (qv 9) (paq_cons (qv 2) paq_nil)))))))) (gq_nm 17 S.nd) (psq_cons (psq_set (i := 18) S.nd (pq_fn G__law_copied HR__law_copied (paq_cons (qv 17) paq_nil))) (psq_cons (psq_set (i := 19) S.nd (pq_fn G__law_are HR__law_are (paq_cons (qv 6) (paq_cons (qv 18) paq_nil)))) (psq_one (psq_if (ptq_not (ptq_val (pq_fn G__law_same HR__law_same (paq_cons (pq_lst false (paq_cons (pq_fnX G_are_shares HR_are_shares (pass_nox (CX := CX0) (fun _ _ z => z) rfl) (paq_cons (qv 5) (paq_cons (qv 17) paq_nil))) (paq_cons (pq_kwX (perm := [1, 0]) G_are_shares HR_are_shares (pass_nox (CX := CX0) (fun _ _ z => z) rfl) (pkq_cons (pq_fn G__law_loose HR__law_loose (paq_cons (qv 1) (paq_cons (qv 18) paq_nil))) (pkq_cons (pq_dictF (pq_bt (cq_dict rfl) Z.b_dict (paq_cons (qv 4) paq_nil))) pkq_nil)) kw_are_shares_10) (paq_cons (qv 17) paq_nil)))) (paq_cons (pq_lst false (paq_cons (qv 19) (paq_cons (qv 19) (paq_cons (qv 18) paq_nil)))) paq_nil))))) (psq_one (psq_ret pq_bl)) psq_nil))))) (psq_one (psq_if (ptq_not (ptq_val (pq_fn G__law_same HR__law_same (paq_cons (qv 5) (paq_cons (qv 8) paq_nil))))) (psq_one (psq_ret pq_bl)) psq_nil)))))))))))))) (psq_cons (psq_for PassesOwn.never rfl (piq_it (pq_fn0 G__law_e_odd_counts HR__law_e_odd_counts)) (gq_nm 20 S.nd) (psq_one (psq_if (ptq_not (ptq_val (pq_fn G__law_same HR__law_same (paq_cons (pq_lst false (paq_cons (pq_met (C := C) (f := "counts") (told := "told") (code := "counts") mgg Fg.kp lkg hcg hbg sc__law_met rfl (.inl rfl) (met_gives (C := C) sc__law_met rfl E_BadCounts.gm rfl rfl xf hno hex) TB rfl (List.mem_singleton.mpr rfl) (fun p hp _ => by rw [List.mem_singleton.mp hp]; rfl) (hr.mono (show 8 ≤ 14 by decide)) (LamX.lamS_by (show LamX.lamSB (defScope s_law) _ = true by decide +kernel)) fun _ _ _ _ _ _ _ x2l hrl => (pq_fnXL (x2 := x2l) G_least_shares hrl pass_lam (paq_cons (qv 20) paq_nil))) (paq_cons (pq_met (C := C) (f := "counts") (told := "told") (code := "counts") mgg Fg.kp lkg hcg hbg sc__law_met rfl (.inl rfl) (met_gives (C := C) sc__law_met rfl E_BadCounts.gm rfl rfl xf hno hex) TB rfl (List.mem_singleton.mpr rfl) (fun p hp _ => by rw [List.mem_singleton.mp hp]; rfl) (hr.mono (show 8 ≤ 14 by decide)) (LamX.lamS_by (show LamX.lamSB (defScope s_law) _ = true by decide +kernel)) fun _ _ _ _ _ _ _ x2l hrl => (pq_kwXL (x2 := x2l) (perm := [1, 0]) G_are_shares hrl pass_lam (pkq_cons pq_non (pkq_cons (qv 20) pkq_nil)) kw_are_shares_10)) paq_nil))) (paq_cons (pq_mulL false (pq_lst false (paq_cons (pq_tup (paq_cons pq_str (paq_cons (qv 20) paq_nil))) paq_nil)) pq_int) paq_nil))))) (psq_one (psq_ret pq_bl)) psq_nil))) (psq_one (psq_ret (pq_fn G__law_same HR__law_same (paq_cons (pq_lst false (paq_cons (pq_fnX G_least_shares HR_least_shares (pass_nox (CX := CX0) (fun _ _ z => z) rfl) (paq_cons (pq_dispF (ppq_cons pq_str pq_int (ppq_cons pq_str pq_int (ppq_cons pq_str pq_int ppq_nil)))) paq_nil)) (paq_cons (pq_fnX G_are_shares HR_are_shares (pass_nox (CX := CX0) (fun _ _ z => z) rfl) (paq_cons (pq_dispF (ppq_cons pq_int pq_int ppq_nil)) (paq_cons (pq_lst false (paq_cons (pq_lst false (paq_cons pq_int paq_nil)) paq_nil)) paq_nil))) (paq_cons (pq_fnX G_are_shares HR_are_shares (pass_nox (CX := CX0) (fun _ _ z => z) rfl) (paq_cons (pq_dispF (ppq_cons pq_int pq_int ppq_nil)) (paq_cons (pq_lst false (paq_cons (pq_lst false (paq_cons pq_int paq_nil)) paq_nil)) paq_nil))) paq_nil)))) (paq_cons (pq_lst false (paq_cons (pq_lst false (paq_cons (pq_lst false (paq_cons pq_int (paq_cons pq_int (paq_cons pq_int paq_nil)))) (paq_cons (pq_lst false (paq_cons pq_int (paq_cons pq_int paq_nil))) (paq_cons (pq_lst false (paq_cons pq_int paq_nil)) paq_nil)))) (paq_cons pq_bl (paq_cons pq_bl paq_nil)))) paq_nil))))))))), ?_⟩
  rintro ds A P ⟨ns, rfl, hns, hP⟩
  rw [show startQ ["script", "stream", "odds", "turn", "counts", "handed", "numbers", "one", "was", "due", "told", "nought", "row", "things", "k", "other", "at", "thing", "own", "is_due", "odd"] [D.frl (ns.map D.int)] = [some (D.frl (ns.map D.int)), none, none, none, none, none, none, none, none, none, none, none, none, none, none, none, none, none, none, none, none] from rfl]
  refine qSeq_st fun N1 n1 => ?_
  walk_at "rs"
  refine ⟨ns, rfl, hns, fun a b A1 ha hb hs1 ho1 => ?_⟩
  refine n1 _ _ (qSeq_st fun N2 n2 => ?_)
  walk_at "rs"
  refine ⟨by decide, by decide, by decide, by decide, by decide, ?_⟩
  refine n2 _ _ (qSeq_st fun N3 n3 => ?_)
  walk_at "rs"
  refine ⟨⟨by decide, by decide⟩, ?_⟩
  refine runL_rng (fun t s' A' => ∃ x3 x4 x5 x6 x7 x8 x9 x10 x11 x12 x13 x14 x15 x16 x17 x18 x19 x20, s' = [some (.frl (ns.map .int)), some (.mut a), some (.lst oddsL), x3, x4, x5, x6, x7, x8, x9, x10, x11, x12, x13, x14, x15, x16, x17, x18, x19, x20] ∧ Strm A' a b (t * 100000)) ?_ ?_ ?_
  · exact ⟨_, _, _, _, _, _, _, _, _, _, _, _, _, _, _, _, _, _, rfl, hs1.up (by omega)⟩
  · rintro t s' A2 N ht ⟨x3, x4, x5, x6, x7, x8, x9, x10, x11, x12, x13, x14, x15, x16, x17, x18, x19, x20, rfl, hs⟩ next
    have ht7 : t < 7 := ht
    clear n3 n2 n1
    walk_at "rs"
    refine qSeq_st fun N4 n4 => ?_
    walk_at "rs"
    refine ⟨a, b, _, 8, rfl, by decide, by decide, hs, by unfold maxDraws; omega, fun ks g A3 hks hkl hg hs3 ho3 => ?_⟩
    refine n4 _ _ (qSeq_st fun N5 n5 => ?_)
    walk_at "rs"
    refine ⟨a, b, _, ks, _, rfl, hks.one, hks.2.2, hks.2.1, by omega, hs3, by unfold maxDraws; omega, fun ls A4 hp hs4 ho4 => ?_⟩
    refine rSort_dic (sort_tab hks.one hks.2.2) (by rw [tabK_length]; omega) ?_
    walk_at "rs"
    have pk := srtK_perm hks.one
    have pl := pk.length_eq
    refine compL_of kD (fun k => .int (g k)) (srtK ks) (by omega) (fun y hy Q hQ => ?_) ?_
    · walk_at "rs"
      rw [keyD_k]
      walk_at "rs"
      rw [getA_tabK (pk.mem_iff.mp hy)]
      exact hQ
    rw [show (srtK ks).map (fun k => D.int (g k)) = ((srtK ks).map g).map D.int from (List.map_map ..).symm]
    obtain ⟨nm, hnm⟩ : ∃ nm, nm = (srtK ks).map g := ⟨_, rfl⟩
    have hnl : nm.length = ks.length := by rw [hnm, List.length_map, pl]
    have hnb : ∀ x ∈ nm, 0 ≤ x ∧ x ≤ 1000 := fun x hx => by
      rw [hnm] at hx
      obtain ⟨k, hk, rfl⟩ := List.mem_map.mp hx
      have := hg k (pk.mem_iff.mp hk)
      omega
    have hn0 : 0 < nm.length := by rw [hnl]; exact List.length_pos_iff.mpr hks.2.2
    rw [← hnm]
    have hKept : ∀ {ms : List Key} (B : MH), ms.Perm ks → Kept B (.dic (tabK ms fun k => .int (g k))) (tabK (srtK ks) fun k => .int (g k)) nm := fun B hm => by
      rw [hnm]; exact kept_tab B hks (by omega) hm fun k hk => (hg k hk).1
    refine n5 _ _ (qSeq_st fun N6 n6 => ?_)
    walk_at "rs"
    intro _ _
    refine ⟨nm, rfl, by omega, by decide, ?_⟩
    obtain ⟨dl, hdl⟩ : ∃ dl : List D, dl = (rowsI nm).map fun r => D.lst (r.map D.int) := ⟨_, rfl⟩
    have hdue : sharesD nm = .lst dl := by rw [hdl]; exact sharesD_rows nm
    rw [hdue]
    obtain ⟨dd1, dd2, dd3, dd4⟩ := shares_dat (ns := nm) hnb (by omega)
    rw [hdue] at dd1 dd2 dd3 dd4
    obtain ⟨rl1, rl2⟩ := rowsI_ok (ns := nm) hnb (by omega)
    have rl3 : ∀ r ∈ rowsI nm, 0 < r.length := fun r hr => by
      obtain ⟨f, hf, rfl⟩ := List.mem_map.mp hr
      have := List.mem_range.mp hf
      rw [List.length_map, List.length_range]; omega
    have hdll : dl.length = nm.length := by rw [hdl, List.length_map, rl1]
    refine n6 _ _ (qSeq_st fun N7 n7 => ?_)
    walk_at "rs"
    refine ⟨_, rfl, _, nm, hKept A4 hp, fun tl as A5 hR => ?_⟩
    rw [rowI_rows] at hR
    have tne := hs4.ne hR.nt
    have ane : ∀ c ∈ as, c ≠ a ∧ c ≠ b := fun c hc => hs4.ne (hR.na c hc)
    have hs5 : Strm A5 a b (t * 100000 + 100 + 100) := hs4.at (hR.off a (Ne.symm tne.1) fun z => (ane a z).1 rfl) (hR.off b (Ne.symm tne.2) fun z => (ane b z).2 rfl)
    refine n7 _ _ (qSeq_st fun N8 n8 => ?_)
    walk_at "rs"
    intro _ _
    refine ⟨_, rfl, .inr ⟨_, nm, hKept A5 (.refl _), ?_⟩⟩
    rw [hdue]
    have pdue : plD (.lst dl) = true := datD_pl dd1 (by omega)
    have vdue : viewN 2 A5 (.lst dl) = some (.lst dl) := viewN_plain 2 A5 pdue
    have vtl : viewN 2 A5 (.mut tl) = some (.lst dl) := by
      show (match A5 tl with | some (.lst ds) => (viewL (viewN 1 A5) ds).map D.lst | _ => none) = _
      rw [hR.top]
      show (viewL (viewN 1 A5) (as.map .mut)).map D.lst = _
      rw [viewL_mut hR.rows fun r _ => viewL_all fun x _ => (by cases x <;> rfl), hdl, List.map_map]; rfl
    have vw : viewL (viewN 3 A5) [.lst [.mut tl, .lst dl], .lst [.lst dl, .lst dl]] = some [.lst [.lst dl, .lst dl], .lst [.lst dl, .lst dl]] := by
      have e1 : viewN 3 A5 (.lst [.mut tl, .lst dl]) = some (.lst [.lst dl, .lst dl]) := by
        show (match viewN 2 A5 (.mut tl), (match viewN 2 A5 (.lst dl), some [] with | some d', some r' => some (d' :: r') | _, _ => none) with | some d', some r' => some (d' :: r') | _, _ => none).map D.lst = _
        rw [vtl, vdue]; rfl
      have e2 : viewN 3 A5 (.lst [.lst dl, .lst dl]) = some (.lst [.lst dl, .lst dl]) := by
        show (match viewN 2 A5 (.lst dl), (match viewN 2 A5 (.lst dl), some [] with | some d', some r' => some (d' :: r') | _, _ => none) with | some d', some r' => some (d' :: r') | _, _ => none).map D.lst = _
        rw [vdue]; rfl
      show (match viewN 3 A5 (.lst [.mut tl, .lst dl]), (match viewN 3 A5 (.lst [.lst dl, .lst dl]), some [] with | some d', some r' => some (d' :: r') | _, _ => none) with | some d', some r' => some (d' :: r') | _, _ => none) = _
      rw [e1, e2]
    have pl2 : plD (.lst [.lst dl, .lst dl]) = true := by
      rw [plD, plDs, plDs, plDs, pdue]; rfl
    refine ⟨by decide, by decide, ?_⟩
    rw [vw, okQ_some]
    refine ⟨_, rfl, pl2, by rw [dep, deps, deps, deps]; omega, rfl, ?_⟩
    walk_at "rs"
    rw [if_neg (by decide)]
    refine n8 _ _ (qSeq_st fun N9 n9 => ?_)
    walk_at "rs"
    have hal : as.length = nm.length := by have := hR.rows.len; rw [List.length_map, rl1] at this; exact this
    obtain ⟨r0, as', eas⟩ : ∃ r0 as', as = r0 :: as' := by
      cases as with
      | nil => rw [List.length_nil] at hal; omega
      | cons r0 as' => exact ⟨r0, as', rfl⟩
    obtain ⟨row0, hr01, hr02⟩ := hR.rows.get (i := 0) (a := r0) (by rw [eas]; rfl)
    have hrow0 : row0.length ≤ 12 := by
      obtain ⟨q, hq, rfl⟩ := List.mem_map.mp (List.mem_of_getElem? hr01)
      have := (rl2 q hq).1
      rw [List.length_map]; omega
    have n0 : r0 ≠ tl := fun z => (List.nodup_cons.mp hR.nd).1 (by rw [← z, eas]; exact List.mem_cons_self ..)
    have a0 := ane r0 (by rw [eas]; exact List.mem_cons_self ..)
    rw [qIx_mut hR.top, eas, List.map_cons, at_zero]
    walk_at "rs"
    rw [isLm_mut hr02, app_mut hr02]
    refine ⟨trivial, by omega, n9 _ _ (qSeq_st fun N10 n10 => ?_)⟩
    walk_at "rs"
    have htop2 : (A5.set r0 (.lst (row0 ++ [D.str "late"]))) tl = some (.lst (as.map .mut)) := by rw [MH.set_ne (Ne.symm n0)]; exact hR.top
    rw [isLm_mut htop2, app_mut htop2]
    refine ⟨trivial, by rw [List.length_map]; omega, n10 _ _ (qSeq_st fun N11 n11 => ?_)⟩
    have hs7 := (hs5.set (o := .lst (row0 ++ [D.str "late"])) a0.1 a0.2).set (o := .lst (as.map D.mut ++ [D.str "late"])) tne.1 tne.2
    generalize ((A5.set r0 (.lst (row0 ++ [D.str "late"]))).set tl (.lst (as.map D.mut ++ [D.str "late"]))) = A7 at hs7 ⊢
    clear n10 n9 n8 n7 n6 n5 n4
    walk_at "rs"
    rw [hdl]
    refine compL_of (fun r : List Int => D.lst (r.map .int)) (fun r => .lst (r.map fun _ => .int 0)) (rowsI nm) (by omega) (fun r hr Q hQ => ?_) ?_
    · walk_at "rs"
      exact compL_of D.int (fun _ => .int 0) r (by have := (rl2 r hr).1; omega) (fun y hy Q2 hQ2 => by walk_at "rs"; exact hQ2) hQ
    rw [← hdl]
    refine n11 _ _ (qSeq_st fun N12 n12 => ?_)
    walk_at "rs"
    rw [show (compL _ _ _ _ dl [] A7 _) = (compL _ _ _ _ ((rowsI nm).map fun r => D.lst (r.map D.int)) [] A7 _) by rw [← hdl]]
    refine compL_of (fun r : List Int => D.lst (r.map .int)) (fun r => .tup (r.map .int)) (rowsI nm) (by omega) (fun r hr Q hQ => ?_) ?_
    · walk_at "rs"
      exact hQ
    refine ⟨by decide, by decide, by show dl.length + 1 ≤ 100000; omega, fun _ _ => ⟨by decide, by decide, fun th hth => ?_⟩⟩
    refine n12 _ _ (qSeq_st fun N13 n13 => ?_)
    walk_at "rs"
    refine ⟨⟨by decide, by decide⟩, ?_⟩
    have thne := hs7.ne hth
    refine runL_rng (fun k s' A' => ∃ x12 x14 x15 x16 more, s' = [some (D.frl (ns.map .int)), some (D.mut a), some (D.lst oddsL), some (D.int t), some (D.dic (tabK ks fun x => D.int (g x))), some (D.dic (tabK ls fun x => D.int (g x))), some (D.lst (nm.map .int)), x7, some (D.dic (tabK ls fun x => D.int (g x))), some (D.lst dl), some (D.mut tl), some (D.lst ((rowsI nm).map fun r => D.lst (r.map fun _ => D.int 0))), x12, some (D.mut th), x14, x15, x16, x17, x18, x19, x20] ∧ Strm A' a b (t * 100000 + 200 + 10 * k) ∧ A' th = some (.lst (things0 dl (rowsI nm) ++ more)) ∧ more.length = k ∧ ∀ x ∈ more, gd x) ?_ ?_ ?_
    · exact ⟨_, _, _, _, [], rfl, (hs7.set thne.1 thne.2).up (by omega), MH.set_same, rfl, fun x h => absurd h List.not_mem_nil⟩
    · rintro k s' A8 N14 hk ⟨x12, x14, x15, x16, more, rfl, hs8, hth8, hml, hmg⟩ next14
      have hk9 : k < 9 := hk
      walk_at "rs"
      refine qSeq_st fun N15 n15 => ?_
      walk_at "rs"
      refine ⟨rowsI nm, by rw [hdl], by omega, fun r hr => ⟨by have := (rl2 r hr).1; omega, fun x hx => by have := (rl2 r hr).2 x hx; omega⟩, fun t2 as2 B hB => ?_⟩
      have t2ne := hs8.ne hB.nt
      have a2ne : ∀ c ∈ as2, c ≠ a ∧ c ≠ b := fun c hc => hs8.ne (hB.na c hc)
      have hs9 : Strm B a b (t * 100000 + 200 + 10 * k) := hs8.at (hB.off a (Ne.symm t2ne.1) fun z => (a2ne a z).1 rfl) (hB.off b (Ne.symm t2ne.2) fun z => (a2ne b z).2 rfl)
      have t2th : th ≠ t2 := fun z => by rw [z, hB.nt] at hth8; cases hth8
      have a2th : ∀ c ∈ as2, th ≠ c := fun c hc z => by rw [z, hB.na c hc] at hth8; cases hth8
      have hth9 : B th = some (.lst (things0 dl (rowsI nm) ++ more)) := by rw [hB.off th t2th fun z => a2th th z rfl]; exact hth8
      have hal2 : as2.length = nm.length := by have := hB.rows.len; rw [List.length_map, rl1] at this; exact this
      refine n15 _ _ (qSeq_st fun N16 n16 => ?_)
      walk_at "rs"
      refine ⟨a, b, _, .mut t2, as2.map .mut, rfl, .inr (.inr ⟨t2, rfl, t2ne.1, t2ne.2, hB.top⟩), by rw [List.length_map]; omega, by rw [List.length_map]; omega, hs9, by unfold maxDraws; omega, fun i x B2 hi hs10 ho10 => ?_⟩
      rw [List.getElem?_map] at hi
      obtain ⟨c2, hc2, rfl⟩ : ∃ c2, as2[i]? = some c2 ∧ x = .mut c2 := by
        cases e : as2[i]? with
        | none => rw [e] at hi; cases hi
        | some c2 => rw [e] at hi; cases hi; exact ⟨c2, rfl, rfl⟩
      have hcm := List.mem_of_getElem? hc2
      obtain ⟨row, hrow1, hrow2⟩ := hB.rows.get hc2
      obtain ⟨rw0, hrw1, hrw2⟩ : ∃ rw0, (rowsI nm)[i]? = some rw0 ∧ row = rw0.map .int := by
        rw [List.getElem?_map] at hrow1
        cases e : (rowsI nm)[i]? with
        | none => rw [e] at hrow1; cases hrow1
        | some r => rw [e] at hrow1; cases hrow1; exact ⟨r, rfl, rfl⟩
      have hrwm := List.mem_of_getElem? hrw1
      have hrwl := rl2 rw0 hrwm
      have hrw0 := rl3 rw0 hrwm
      have cne := a2ne c2 hcm
      have hrow3 : B2 c2 = some (.lst (rw0.map .int)) := by rw [ho10 c2 cne.1 cne.2, hrow2, hrw2]
      refine n16 _ _ (qSeq_st fun N17 n17 => ?_)
      walk_at "rs"
      rw [len_mut hrow3, okQ_some]
      refine ⟨a, b, _, _, rfl, by rw [List.length_map]; omega, by rw [List.length_map]; omega, hs10, by unfold maxDraws; omega, fun z B3 hz0 hz1 hs11 ho11 => ?_⟩
      rw [List.length_map] at hz1
      obtain ⟨j, rfl⟩ := Int.eq_ofNat_of_zero_le hz0
      have hj : j < rw0.length := by omega
      have hrow4 : B3 c2 = some (.lst (rw0.map .int)) := by rw [ho11 c2 cne.1 cne.2, hrow3]
      refine n17 _ _ (qSeq_st fun N18 n18 => ?_)
      walk_at "rs"
      have hat : L2.atI (rw0.map D.int) (j : Int) = some (.int rw0[j]) := by rw [at_nat, List.getElem?_map, List.getElem?_eq_getElem hj]; rfl
      have hvb := hrwl.2 rw0[j] (List.getElem_mem hj)
      rw [qIx_mut hrow4, hat]
      walk_at "rs"
      rw [qIx_mut hrow4, hat]
      walk_at "rs"
      refine ⟨by decide, a, b, _, _, _, rfl, .inl rfl, Nat.succ_pos _, Nat.le_of_ble_eq_true rfl, hs11, by unfold maxDraws; omega, fun i2 y B4 hi2 hs12 ho12 => ?_⟩
      have fy : flt y := by
        have := List.mem_of_getElem? hi2
        simp only [List.mem_cons, List.not_mem_nil, or_false] at this
        rcases this with rfl | rfl | rfl | rfl | rfl | rfl
        · exact flt_int (by omega) (by omega)
        · exact flt_int (by omega) (by omega)
        · exact ⟨rfl, rfl, rfl⟩
        · exact ⟨rfl, rfl, rfl⟩
        · exact ⟨rfl, rfl, rfl⟩
        · exact ⟨rfl, rfl, rfl⟩
      have hrow5 : B4 c2 = some (.lst (rw0.map .int)) := by rw [ho12 c2 cne.1 cne.2, hrow4]
      show setL (.mut c2) (.int j) y B4 _
      rw [setL_mut hrow5, List.length_map, ix_nat hj, okQ_some]
      have hof : ∀ q, q ≠ a → q ≠ b → B4 q = B q := fun q h1 h2 => by rw [ho12 q h1 h2, ho11 q h1 h2, ho10 q h1 h2]
      have t2c2 : t2 ≠ c2 := fun z => (List.nodup_cons.mp hB.nd).1 (z ▸ hcm)
      have hR5 : RowsAt (B4.set c2 (.lst ((rw0.map D.int).set j y))) as2 (((rowsI nm).map fun r => r.map D.int).set i ((rw0.map D.int).set j y)) := (hB.rows.off fun q hq => hof q (a2ne q hq).1 (a2ne q hq).2).set (List.nodup_cons.mp hB.nd).2 hc2
      have htop5 : (B4.set c2 (.lst ((rw0.map D.int).set j y))) t2 = some (.lst (as2.map .mut)) := by rw [MH.set_ne t2c2, hof t2 t2ne.1 t2ne.2, hB.top]
      have hth5 : (B4.set c2 (.lst ((rw0.map D.int).set j y))) th = some (.lst (things0 dl (rowsI nm) ++ more)) := by rw [MH.set_ne (a2th c2 hcm), hof th thne.1 thne.2, hth9]
      have hs13 := hs12.set (o := .lst ((rw0.map D.int).set j y)) cne.1 cne.2
      generalize (B4.set c2 (.lst ((rw0.map D.int).set j y))) = B5 at hR5 htop5 hth5 hs13 ⊢
      obtain ⟨rows5, hrows5⟩ : ∃ rows5, rows5 = ((rowsI nm).map fun r => r.map D.int).set i ((rw0.map D.int).set j y) := ⟨_, rfl⟩
      rw [← hrows5] at hR5
      have hf5 : ∀ r ∈ rows5, r.length ≤ 12 ∧ ∀ x ∈ r, flt x := fun r hr => by
        have old : ∀ q ∈ rowsI nm, (q.map D.int).length ≤ 12 ∧ ∀ x ∈ q.map D.int, flt x := fun q hq => ⟨by rw [List.length_map]; have := (rl2 q hq).1; omega, fun x hx => by
          obtain ⟨v, hv, rfl⟩ := List.mem_map.mp hx
          have := (rl2 q hq).2 v hv
          exact flt_int (by omega) (by omega)⟩
        rw [hrows5] at hr
        rcases List.mem_or_eq_of_mem_set hr with h | h
        · obtain ⟨q, hq, rfl⟩ := List.mem_map.mp h
          exact old q hq
        · subst h
          refine ⟨by rw [List.length_set]; exact (old rw0 hrwm).1, fun x hx => ?_⟩
          rcases List.mem_or_eq_of_mem_set hx with h | h
          · exact (old rw0 hrwm).2 x h
          · subst h; exact fy
      have hl5 : rows5.length = nm.length := by rw [hrows5, List.length_set, List.length_map, rl1]
      obtain ⟨g1, g2, g3⟩ := rows_flt hf5
      refine n18 _ _ ?_
      walk_at "rs"
      rw [isLm_mut hth5, fzN_rows (n := 0) htop5 hR5 hB.nd fun r hr => by
        obtain ⟨q1, q2, _⟩ := flt_row (hf5 r hr).2
        exact datDs_pl q1 (by have := (hf5 r hr).1; omega), okQ_some]
      have hd5 : ∀ q, q ≠ t2 → q ∉ as2 → (delA B5 (t2 :: as2)) q = B5 q := fun q h1 h2 => delA_off fun z => (List.mem_cons.mp z).elim h1 h2
      have hthd : (delA B5 (t2 :: as2)) th = some (.lst (things0 dl (rowsI nm) ++ more)) := by rw [hd5 th t2th fun z => a2th th z rfl, hth5]
      rw [app_mut hthd]
      refine ⟨trivial, by rw [List.length_append]; show 12 + _ < _; omega, next14 _ _ ⟨_, _, _, _, more ++ [.lst (rows5.map .lst)], rfl, ?_, ?_, by rw [List.length_append, hml]; rfl, fun x hx => ?_⟩⟩
      · refine Strm.set ?_ thne.1 thne.2
        exact (hs13.at (hd5 a (Ne.symm t2ne.1) fun z => (a2ne a z).1 rfl) (hd5 b (Ne.symm t2ne.2) fun z => (a2ne b z).2 rfl)).up (by omega)
      · rw [MH.set_same, List.append_assoc]
      · rcases List.mem_append.mp hx with h | h
        · exact hmg x h
        · rw [List.mem_singleton] at h; subst h
          exact ⟨g1, by rw [nod]; rw [hl5] at g2; omega, by rw [dep]; omega⟩
    · rintro s' A8 ⟨x12, x14, x15, x16, more, rfl, hs8, hth8, hml, hmg⟩
      refine n13 _ _ (qSeq_st fun N15 n15 => ?_)
      walk_at "rs"
      have hml9 : more.length = 9 := hml
      rw [hth8]
      refine ⟨⟨by decide, by decide⟩, ?_⟩
      have hs8d : Strm (A8.del th) a b (t * 100000 + 300) := (hs8.at (MH.del_ne (Ne.symm thne.1)) (MH.del_ne (Ne.symm thne.2))).up (by have : Int.toNat 9 = 9 := rfl; omega)
      refine compL_st (fun i A' => Strm A' a b (t * 100000 + 300 + 12 * i)) (fun _ _ y => gd y) (by decide) (hs8d.up (by omega)) ?_ ?_
      · rintro i x B hx hs9 Q hQ
        have hi6 : i < 6 := (rngD_get hx).1
        walk_at "rs"
        exact ⟨a, b, _, _, _, rfl, dd1, dd4, by omega, by omega, by decide, by decide, oddsL_ok, hs9, by unfold maxDraws; omega, fun e B2 e1 e2 e3 hs10 _ => hQ e B2 ⟨e1, by omega, by omega⟩ (hs10.up (by omega))⟩
      rintro out A9 hol hog hs9
      have hol6 : out.length = 6 := hol
      have hog' : ∀ x ∈ out, gd x := fun x hx => by
        obtain ⟨i, hi⟩ := List.getElem?_of_mem hx
        have hi6 : i < 6 := by have := (List.getElem?_eq_some_iff.mp hi).1; omega
        exact hog i _ x (rngD_at (show i < Int.toNat 6 from hi6)) hi
      have hs9' : Strm A9 a b (t * 100000 + 400) := hs9.up (by rw [rngD_len]; have : Int.toNat 6 = 6 := rfl; omega)
      obtain ⟨all, hall⟩ : ∃ all, all = things0 dl (rowsI nm) ++ more ++ out := ⟨_, rfl⟩
      have hallg : ∀ x ∈ all, gd x := fun x hx => by
        rw [hall] at hx
        rcases List.mem_append.mp hx with h | h
        · rcases List.mem_append.mp h with h | h
          · exact things_ok hdl (fun r hr => ⟨by have := (rl2 r hr).1; omega, (rl2 r hr).2⟩) (by omega) x h
          · exact hmg x h
        · exact hog' x h
      have halll : all.length = 27 := by
        rw [hall, List.length_append, List.length_append, hml9, hol6]; rfl
      refine ⟨by rw [List.length_append]; show 12 + more.length + out.length ≤ _; omega, ?_⟩
      show runL _ _ _ (things0 dl (rowsI nm) ++ more ++ out) _ _
      rw [← hall]
      refine runL_ix (fun i s' A' => ∃ x14 x17 x18 x19, s' = [some (D.frl (ns.map .int)), some (D.mut a), some (D.lst oddsL), some (D.int t), some (D.dic (tabK ks fun x => D.int (g x))), some (D.dic (tabK ls fun x => D.int (g x))), some (D.lst (nm.map .int)), x7, some (D.dic (tabK ls fun x => D.int (g x))), some (D.lst dl), some (D.mut tl), some (D.lst ((rowsI nm).map fun r => D.lst (r.map fun _ => D.int 0))), x12, some (D.mut th), x14, x15, x16, x17, x18, x19, x20] ∧ Strm A' a b (t * 100000 + 400 + 1000 * i)) ⟨_, _, _, _, rfl, hs9'.up (by omega)⟩ ?_ ?_
      · rintro i x s' B N16 hx ⟨x14, x17, x18, x19, rfl, hs10⟩ next16
        have hi27 : i < 27 := by have := (List.getElem?_eq_some_iff.mp hx).1; omega
        obtain ⟨gx1, gx2, gx3⟩ := hallg x (List.mem_of_getElem? hx)
        have px := datD_pl gx1 (by omega)
        walk_at "rs"
        refine qSeq_st fun N17 n17 => ?_
        walk_at "rs"
        refine ⟨x, rfl, gx1, by omega, by omega, n17 _ _ (qSeq_st fun N18 n18 => ?_)⟩
        walk_at "rs"
        refine ⟨nm, x, rfl, by omega, gx1, by omega, fun bb hbb => n18 _ _ ?_⟩
        walk_at "rs"
        refine ⟨_, x, rfl, px, .inr ⟨_, nm, hKept B hp, fun b1 hb1 => ?_⟩⟩
        refine ⟨a, b, _, x, rfl, gx1, by omega, by omega, hs10, by unfold maxDraws; omega, fun e B2 hlo hs11 _ => ?_⟩
        intro _ _
        have de := hlo.dat
        refine ⟨_, e, rfl, datD_pl (de.1 ▸ gx1) (by omega), .inr ⟨_, nm, hKept B2 (.refl _), fun b2 hb2 => ?_⟩⟩
        have e1 : b1 = bb := Bool.eq_iff_iff.mpr (hb1.trans hbb.symm)
        have e2 : b2 = bb := Bool.eq_iff_iff.mpr (hb2.trans (Iff.trans ⟨fun h => loo_ares hlo.symm h, fun h => loo_ares hlo h⟩ hbb.symm))
        subst e1 e2
        refine ⟨by decide, by decide, _, rfl, ?_, ?_, ?_⟩
        · rw [plD, plDs, plDs, plDs, plDs, px]; rfl
        · have : dep (.lst [.bl b2, .bl b2, x]) = max 0 (max 0 (max (dep x) 0)) + 1 := rfl
          omega
        walk_at "rs"
        rw [if_neg (by decide)]
        exact next16 _ _ ⟨_, _, _, _, rfl, hs11.up (by omega)⟩
      · rintro s' B ⟨x14, x17, x18, x19, rfl, hs10⟩
        rw [halll] at hs10
        refine n15 _ _ ?_
        walk_at "rs"
        obtain ⟨tp1, tp2⟩ := tab_pl (g := g) ls
        refine ⟨_, rfl, ?_, ?_, ?_⟩
        · rw [plD, tp1, tabK_length, hp.length_eq, decide_eq_true (by omega)]; rfl
        · rw [dep, tp2]; decide
        show (if (!true) = true then _ else _)
        rw [if_neg (by decide)]
        exact next _ _ ⟨_, _, _, _, _, _, _, _, _, _, _, _, _, _, _, _, _, _, rfl, hs10.up (by omega)⟩
  · rintro s' A2 ⟨x3, x4, x5, x6, x7, x8, x9, x10, x11, x12, x13, x14, x15, x16, x17, x18, x19, x20, rfl, hs⟩
    refine n3 _ _ (qSeq_st fun N4 n4 => ?_)
    walk_at "rs"
    refine ⟨rfl, ?_⟩
    show okQ (itD (.lst oddL)) _
    rw [itD_lst, okQ_some]
    refine runL_ix (fun i s' A' => ∃ x20, s' = [some (D.frl (ns.map .int)), some (D.mut a), some (D.lst oddsL), x3, x4, x5, x6, x7, x8, x9, x10, x11, x12, x13, x14, x15, x16, x17, x18, x19, x20]) ⟨_, rfl⟩ ?_ ?_
    · rintro i x s' B N16 hx ⟨x20, rfl⟩ next16
      have hm := List.mem_of_getElem? hx
      have hk := odd_kept B x hm
      obtain ⟨px, dx⟩ := odd_pl x hm
      walk_at "rs"
      refine ⟨x, rfl, .inl ⟨hk, rfl, x, rfl, ?_⟩⟩
      refine ⟨x, .non, rfl, rfl, .inl ⟨hk, rfl, x, rfl, ?_⟩⟩
      refine ⟨by decide, by decide, by decide, by decide, by decide, by decide, _, rfl, ?_, ?_, ?_⟩
      · have pt : plD (.tup [.str "counts", x]) = true := by rw [plD, plDs, plDs, plDs, px]; rfl
        rw [plD, plDs, plDs, plDs, pt]; rfl
      · have : dep (.lst [.tup [.str "counts", x], .tup [.str "counts", x]]) = max (max 0 (max (dep x) 0) + 1) (max (max 0 (max (dep x) 0) + 1) 0) + 1 := rfl
        omega
      show (if (!true) = true then _ else _)
      rw [if_neg (by decide)]
      exact next16 _ _ ⟨_, rfl⟩
    · rintro s' B ⟨x20, rfl⟩
      refine n4 _ _ ?_
      walk_at "rs"
      refine ⟨by decide, ?_⟩
      show okQ (some [((.inr "a" : Key), D.int 1), (.inr "b", .int 5), (.inr "c", .int 1)]) _
      rw [okQ_some]
      intro _ _
      obtain ⟨kvs3, k3⟩ := kept3 B
      refine ⟨_, rfl, .inr ⟨kvs3, _, k3, by decide, ?_⟩⟩
      show okQ (some [((.inl 4 : Key), D.int 2)]) _
      rw [okQ_some]
      intro _ _
      obtain ⟨kvs1, k1⟩ := kept1 B
      refine ⟨by decide, by decide, _, _, rfl, rfl, .inr ⟨kvs1, _, k1, fun b1 hb1 => ⟨by decide, ?_⟩⟩⟩
      have e1 : b1 = true := hb1.mpr ares1
      subst e1
      show okQ (some [((.inl 4 : Key), D.int 2)]) _
      rw [okQ_some]
      intro _ _
      refine ⟨by decide, by decide, _, _, rfl, rfl, .inr ⟨kvs1, _, k1, fun b2 hb2 => ?_⟩⟩
      have e2 : b2 = false := Bool.eq_false_iff.mpr fun z => ares0 (hb2.mp z)
      subst e2
      rw [shares3]
      exact ⟨by decide, by decide, by decide, by decide, by decide, by decide, _, rfl, rfl, by decide, hP _⟩
end
end K68


set_option Elab.async false
set_option linter.all false
set_option maxRecDepth 100000
set_option maxHeartbeats 4000000
namespace K68
open PySem L2 Qd
local macro_rules | `(tactic| walk_at "rd") => `(tactic| simp only [qVar_z, qVar_s, qC, qSeq, qNext, qRet, qRetN, qIfS, qTest, qIs, qOp, qUn, qAnd, qOr, qNot, qAndV, qOrV, qNotV, qCB, qCons, qNil, okQ_some, okQ_none, qIf, qChain, qI, qIC, r1_rd, r2_rd, Qd.rLen, qLc, qIt, rAllQ, rAnyQ, rSumQ, rMinQ, rMaxQ, rAbsQ, rIntQ, newL_f, newL_t, Bool.false_eq_true, if_false, qInS, qEq, qNe, qIsN, qNotN, qDrop, if_true, qDcB, qFill, kkB, qDGet, kkK, qDcK, qFzD, qAsg, tset_nm, tset_tp, tsets_nil, tsets_nm, tsets_tp, wipe_nil, wipe_cons, List.set_cons_zero, List.set_cons_succ, qRaise, qFor, qRng1, qRng2, qTup, qLst, qPar, eqD_int, eqD_str, eqD_bl, itD_lst, itD_tup, itD_dic, lenD_lst, lenD_tup, lenD_dic, dicD_dic, lstD_lst, seqD_lst, seqD_tup, qSl, qoNone, qoSome, qRevL, qLrg1, qLrg2, qCX, qKw, qKwX, List.length_cons, List.length_nil, List.map_cons, List.map_nil, qAsgG, gTupQ, gConsQ, gSubT, gNilQ, qTGet, qDcT, kkT, qNewT, qNewK, List.length_map, Int.toNat_natCast, ditD_mut, qIx_tup, qIx_lst, keysT_2, Bool.or_true, Bool.true_or, Int.zero_add, isN_tup, isN_lst, isN_int, isN_dic, isN_non, at_zero, qMeth, qAddL, qMulL, rTupQ, qCBw, qLX, qLKw, qMet, pick_0, pick_10, qFz, qFzN, qDispF, qNewF, qDictF, qpCons, qpNil, qDispB, qDispT, keyPs, obD, qEqV, gSubQ, qNegI, at4_0, at4_1, at4_2, at4_3, ix4_1, ix4_2, ix4_3])
local macro_rules | `(tactic| walk_at "rs") => `(tactic| simp only [qVar_z, qVar_s, qC, qNext, qRet, qRetN, qIfS, qTest, qIs, qOp, qUn, qAnd, qOr, qNot, qAndV, qOrV, qNotV, qCB, qCons, qNil, okQ_some, okQ_none, qIf, qChain, qI, qIC, r1_rd, r2_rd, Qd.rLen, qLc, qIt, rAllQ, rAnyQ, rSumQ, rMinQ, rMaxQ, rAbsQ, rIntQ, newL_f, newL_t, Bool.false_eq_true, if_false, qInS, qEq, qNe, qIsN, qNotN, qDrop, if_true, qDcB, qFill, kkB, qDGet, kkK, qDcK, qFzD, qAsg, tset_nm, tset_tp, tsets_nil, tsets_nm, tsets_tp, wipe_nil, wipe_cons, List.set_cons_zero, List.set_cons_succ, qRaise, qFor, qRng1, qRng2, qTup, qLst, qPar, eqD_int, eqD_str, eqD_bl, itD_lst, itD_tup, itD_dic, lenD_lst, lenD_tup, lenD_dic, dicD_dic, lstD_lst, seqD_lst, seqD_tup, qSl, qoNone, qoSome, qRevL, qLrg1, qLrg2, qCX, qKw, qKwX, List.length_cons, List.length_nil, List.map_cons, List.map_nil, qAsgG, gTupQ, gConsQ, gSubT, gNilQ, qTGet, qDcT, kkT, qNewT, qNewK, List.length_map, Int.toNat_natCast, ditD_mut, qIx_tup, qIx_lst, keysT_2, Bool.or_true, Bool.true_or, Int.zero_add, isN_tup, isN_lst, isN_int, isN_dic, isN_non, at_zero, qMeth, qAddL, qMulL, rTupQ, qCBw, qLX, qLKw, qMet, pick_0, pick_10, qFz, qFzN, qDispF, qNewF, qDictF, qpCons, qpNil, qDispB, qDispT, keyPs, obD, qEqV, gSubQ, qNegI, at4_0, at4_1, at4_2, at4_3, ix4_1, ix4_2, ix4_3])
section
variable {P : Program} {w : World} {K : PySem.W.Frag} {mg : Str → Option Value} {base : Heap}
abbrev si_BadCounts : Stmt := clsDef (top 6)
theorem sci_BadCounts : FnScope ["self", "counts"] ["self", "counts"] (defScope si_BadCounts) := ⟨rfl, rfl, rfl, by decide +kernel, rfl, by decide +kernel, by decide +kernel⟩
def df_is_list : He.DefD := ⟨("is_list", none), "is_list", "is_list", defArgs s_is_list, defBody s_is_list, defScope s_is_list, [], []⟩
def df_is_whole : He.DefD := ⟨("is_whole", none), "is_whole", "is_whole", defArgs s_is_whole, defBody s_is_whole, defScope s_is_whole, [], []⟩
def df_is_number : He.DefD := ⟨("is_number", none), "is_number", "is_number", defArgs s_is_number, defBody s_is_number, defScope s_is_number, [], []⟩
def df_is_symbol : He.DefD := ⟨("is_symbol", none), "is_symbol", "is_symbol", defArgs s_is_symbol, defBody s_is_symbol, defScope s_is_symbol, [], []⟩
def df_are_symbols : He.DefD := ⟨("are_symbols", none), "are_symbols", "are_symbols", defArgs s_are_symbols, defBody s_are_symbols, defScope s_are_symbols, [], []⟩
def df_kept_counts : He.DefD := ⟨("kept_counts", none), "kept_counts", "kept_counts", defArgs s_kept_counts, defBody s_kept_counts, defScope s_kept_counts, [], []⟩
def df_need_counts : He.DefD := ⟨("need_counts", none), "need_counts", "need_counts", defArgs s_need_counts, defBody s_need_counts, defScope s_need_counts, [], []⟩
def df_shares_by : He.DefD := ⟨("shares_by", none), "shares_by", "shares_by", defArgs s_shares_by, defBody s_shares_by, defScope s_shares_by, [], []⟩
def df_least_shares : He.DefD := ⟨("least_shares", none), "least_shares", "least_shares", defArgs s_least_shares, defBody s_least_shares, defScope s_least_shares, [], []⟩
def df_are_shares : He.DefD := ⟨("are_shares", none), "are_shares", "are_shares", defArgs s_are_shares, defBody s_are_shares, defScope s_are_shares, [], []⟩
def df__law_stream : He.DefD := ⟨("_law_stream", none), "_law_stream", "_law_stream", defArgs s__law_stream, defBody s__law_stream, defScope s__law_stream, [], []⟩
def df__law_draw : He.DefD := ⟨("_law_draw", none), "_law_draw", "_law_draw", defArgs s__law_draw, defBody s__law_draw, defScope s__law_draw, [], []⟩
def df__law_pick : He.DefD := ⟨("_law_pick", none), "_law_pick", "_law_pick", defArgs s__law_pick, defBody s__law_pick, defScope s__law_pick, [], []⟩
def df__law_mixed : He.DefD := ⟨("_law_mixed", none), "_law_mixed", "_law_mixed", defArgs s__law_mixed, defBody s__law_mixed, defScope s__law_mixed, [], []⟩
def df__law_same : He.DefD := ⟨("_law_same", none), "_law_same", "_law_same", defArgs s__law_same, defBody s__law_same, defScope s__law_same, [], []⟩
def df__law_copied : He.DefD := ⟨("_law_copied", none), "_law_copied", "_law_copied", defArgs s__law_copied, defBody s__law_copied, defScope s__law_copied, [], []⟩
def df__law_loose : He.DefD := ⟨("_law_loose", none), "_law_loose", "_law_loose", defArgs s__law_loose, defBody s__law_loose, defScope s__law_loose, [], []⟩
def df__law_is_number : He.DefD := ⟨("_law_is_number", none), "_law_is_number", "_law_is_number", defArgs s__law_is_number, defBody s__law_is_number, defScope s__law_is_number, [], []⟩
def df__law_e_bent : He.DefD := ⟨("_law_e_bent", none), "_law_e_bent", "_law_e_bent", defArgs s__law_e_bent, defBody s__law_e_bent, defScope s__law_e_bent, [], []⟩
def df__law_e_symbols : He.DefD := ⟨("_law_e_symbols", none), "_law_e_symbols", "_law_e_symbols", defArgs s__law_e_symbols, defBody s__law_e_symbols, defScope s__law_e_symbols, [], []⟩
def df__law_e_shuffled : He.DefD := ⟨("_law_e_shuffled", none), "_law_e_shuffled", "_law_e_shuffled", defArgs s__law_e_shuffled, defBody s__law_e_shuffled, defScope s__law_e_shuffled, [], []⟩
def df__law_e_counts : He.DefD := ⟨("_law_e_counts", none), "_law_e_counts", "_law_e_counts", defArgs s__law_e_counts, defBody s__law_e_counts, defScope s__law_e_counts, [], []⟩
def df__law_e_odd_counts : He.DefD := ⟨("_law_e_odd_counts", none), "_law_e_odd_counts", "_law_e_odd_counts", defArgs s__law_e_odd_counts, defBody s__law_e_odd_counts, defScope s__law_e_odd_counts, [], []⟩
def df__law_e_shares : He.DefD := ⟨("_law_e_shares", none), "_law_e_shares", "_law_e_shares", defArgs s__law_e_shares, defBody s__law_e_shares, defScope s__law_e_shares, [], []⟩
def df__law_met : He.DefD := ⟨("_law_met", none), "_law_met", "_law_met", defArgs s__law_met, defBody s__law_met, defScope s__law_met, [], []⟩
def df__law_are : He.DefD := ⟨("_law_are", none), "_law_are", "_law_are", defArgs s__law_are, defBody s__law_are, defScope s__law_are, [], []⟩
def df_law : He.DefD := ⟨("law", none), "law", "law", defArgs s_law, defBody s_law, defScope s_law, [], []⟩
def di_BadCounts : He.DefD := ⟨("BadCounts", some "__init__"), "__init__", "BadCounts.__init__", defArgs si_BadCounts, defBody si_BadCounts, defScope si_BadCounts, [], []⟩
def fnL0 : List He.DefD := [df_is_list, df_is_whole, df_is_number, df_is_symbol, df_are_symbols, df_kept_counts, df_need_counts, df_shares_by, df_least_shares, df_are_shares, df__law_stream, df__law_draw, df__law_pick, df__law_mixed, df__law_same, df__law_copied, df__law_loose, df__law_is_number, df__law_e_bent, df__law_e_symbols, df__law_e_shuffled, df__law_e_counts, df__law_e_odd_counts, df__law_e_shares, df__law_met, df__law_are, df_law, di_BadCounts]
def fnL : List He.DefD := fnL0
def faL0 : List He.Fa := [.free "abs", .free "all", .free "bool", .free "dict", .free "enumerate", .free "int", .free "isinstance", .free "len", .free "list", .free "min", .free "range", .free "sorted", .free "str", .free "sum", .free "tuple", .free "zip", .str "LETTERS" "abcdefghijklmnopqrstuvwxyz", .glo "is_list", .glo "is_whole", .glo "is_number", .glo "is_symbol", .glo "are_symbols", .glo "kept_counts", .glo "need_counts", .glo "shares_by", .glo "least_shares", .glo "are_shares", .glo "_law_stream", .glo "_law_draw", .glo "_law_pick"]
def faL1 : List He.Fa := [.glo "_law_mixed", .glo "_law_same", .glo "_law_copied", .glo "_law_loose", .glo "_law_is_number", .glo "_law_e_bent", .glo "_law_e_symbols", .glo "_law_e_shuffled", .glo "_law_e_counts", .glo "_law_e_odd_counts", .glo "_law_e_shares", .glo "_law_met", .glo "_law_are", .glo "law"]
def faL : List He.Fa := faL0 ++ faL1
def exL : PySem.W.Frag → Bool := fun K => errB K "BadCounts" "counts" && true
def lsL0 : List Str := ["is_list", "is_whole", "is_number", "BitError", "BadCounts", "LETTERS", "is_symbol", "are_symbols", "kept_counts", "need_counts", "shares_by", "least_shares", "are_shares", "_law_stream", "_law_draw", "_law_pick", "_law_mixed", "_law_same", "_law_copied", "_law_loose", "_law_is_number", "_law_e_bent", "_law_e_symbols", "_law_e_shuffled", "_law_e_counts", "_law_e_odd_counts", "_law_e_shares", "_law_met", "_law_are"]
def lsL : List Str := lsL0
theorem nv_ok {K : PySem.W.Frag} {h : Heap} {mg : Str → Option Value} (X : K.In h) (G : h.Ns mainGlobals mg) (c : He.SaysD faL fnL K) : Nv K mg := ⟨He.free_ok X G (c.fact 0 rfl), He.free_ok X G (c.fact 1 rfl), He.free_ok X G (c.fact 2 rfl), He.free_ok X G (c.fact 3 rfl), He.free_ok X G (c.fact 4 rfl), He.free_ok X G (c.fact 5 rfl), He.free_ok X G (c.fact 6 rfl), He.free_ok X G (c.fact 7 rfl), He.free_ok X G (c.fact 8 rfl), He.free_ok X G (c.fact 9 rfl), He.free_ok X G (c.fact 10 rfl), He.free_ok X G (c.fact 11 rfl), He.free_ok X G (c.fact 12 rfl), He.free_ok X G (c.fact 13 rfl), He.free_ok X G (c.fact 14 rfl), He.free_ok X G (c.fact 15 rfl), He.str_ok X G (c.fact 16 rfl), (let ⟨fd, F⟩ := c.def_ 0 (d := df_is_list) rfl; ⟨_, fd, fun_of F, He.glo_ok X G (c.fact 17 rfl)⟩), (let ⟨fd, F⟩ := c.def_ 1 (d := df_is_whole) rfl; ⟨_, fd, fun_of F, He.glo_ok X G (c.fact 18 rfl)⟩), (let ⟨fd, F⟩ := c.def_ 2 (d := df_is_number) rfl; ⟨_, fd, fun_of F, He.glo_ok X G (c.fact 19 rfl)⟩), (let ⟨fd, F⟩ := c.def_ 3 (d := df_is_symbol) rfl; ⟨_, fd, fun_of F, He.glo_ok X G (c.fact 20 rfl)⟩), (let ⟨fd, F⟩ := c.def_ 4 (d := df_are_symbols) rfl; ⟨_, fd, fun_of F, He.glo_ok X G (c.fact 21 rfl)⟩), (let ⟨fd, F⟩ := c.def_ 5 (d := df_kept_counts) rfl; ⟨_, fd, fun_of F, He.glo_ok X G (c.fact 22 rfl)⟩), (let ⟨fd, F⟩ := c.def_ 6 (d := df_need_counts) rfl; ⟨_, fd, fun_of F, He.glo_ok X G (c.fact 23 rfl)⟩), (let ⟨fd, F⟩ := c.def_ 7 (d := df_shares_by) rfl; ⟨_, fd, fun_of F, He.glo_ok X G (c.fact 24 rfl)⟩), (let ⟨fd, F⟩ := c.def_ 8 (d := df_least_shares) rfl; ⟨_, fd, fun_of F, He.glo_ok X G (c.fact 25 rfl)⟩), (let ⟨fd, F⟩ := c.def_ 9 (d := df_are_shares) rfl; ⟨_, fd, fun_of F, He.glo_ok X G (c.fact 26 rfl)⟩), (let ⟨fd, F⟩ := c.def_ 10 (d := df__law_stream) rfl; ⟨_, fd, fun_of F, He.glo_ok X G (c.fact 27 rfl)⟩), (let ⟨fd, F⟩ := c.def_ 11 (d := df__law_draw) rfl; ⟨_, fd, fun_of F, He.glo_ok X G (c.fact 28 rfl)⟩), (let ⟨fd, F⟩ := c.def_ 12 (d := df__law_pick) rfl; ⟨_, fd, fun_of F, He.glo_ok X G (c.fact 29 rfl)⟩), (let ⟨fd, F⟩ := c.def_ 13 (d := df__law_mixed) rfl; ⟨_, fd, fun_of F, He.glo_ok X G (c.fact 30 rfl)⟩), (let ⟨fd, F⟩ := c.def_ 14 (d := df__law_same) rfl; ⟨_, fd, fun_of F, He.glo_ok X G (c.fact 31 rfl)⟩), (let ⟨fd, F⟩ := c.def_ 15 (d := df__law_copied) rfl; ⟨_, fd, fun_of F, He.glo_ok X G (c.fact 32 rfl)⟩), (let ⟨fd, F⟩ := c.def_ 16 (d := df__law_loose) rfl; ⟨_, fd, fun_of F, He.glo_ok X G (c.fact 33 rfl)⟩), (let ⟨fd, F⟩ := c.def_ 17 (d := df__law_is_number) rfl; ⟨_, fd, fun_of F, He.glo_ok X G (c.fact 34 rfl)⟩), (let ⟨fd, F⟩ := c.def_ 18 (d := df__law_e_bent) rfl; ⟨_, fd, fun_of F, He.glo_ok X G (c.fact 35 rfl)⟩), (let ⟨fd, F⟩ := c.def_ 19 (d := df__law_e_symbols) rfl; ⟨_, fd, fun_of F, He.glo_ok X G (c.fact 36 rfl)⟩), (let ⟨fd, F⟩ := c.def_ 20 (d := df__law_e_shuffled) rfl; ⟨_, fd, fun_of F, He.glo_ok X G (c.fact 37 rfl)⟩), (let ⟨fd, F⟩ := c.def_ 21 (d := df__law_e_counts) rfl; ⟨_, fd, fun_of F, He.glo_ok X G (c.fact 38 rfl)⟩), (let ⟨fd, F⟩ := c.def_ 22 (d := df__law_e_odd_counts) rfl; ⟨_, fd, fun_of F, He.glo_ok X G (c.fact 39 rfl)⟩), (let ⟨fd, F⟩ := c.def_ 23 (d := df__law_e_shares) rfl; ⟨_, fd, fun_of F, He.glo_ok X G (c.fact 40 rfl)⟩), (let ⟨fd, F⟩ := c.def_ 24 (d := df__law_met) rfl; ⟨_, fd, fun_of F, He.glo_ok X G (c.fact 41 rfl)⟩), (let ⟨fd, F⟩ := c.def_ 25 (d := df__law_are) rfl; ⟨_, fd, fun_of F, He.glo_ok X G (c.fact 42 rfl)⟩), (let ⟨fd, F⟩ := c.def_ 26 (d := df_law) rfl; ⟨_, fd, fun_of F, He.glo_ok X G (c.fact 43 rfl)⟩)⟩

abbrev RR : PySem.W.OpenRow := PySem.W.OpenLaw.row PySem.Challenge.rw_denserows_k68_any_shares_judged
abbrev hk : PySem.W.Hook := He.hookX 5 faL fnL [] [("law", none)] exL
def ob (s : PySem.W.SharedT) : He.AlX := He.obsX 5 faL fnL [] [("law", none)] exL (HandSHeadRun.getT s)
theorem ob_eq (s : PySem.W.SharedT) : ob s = hk.obs s.abs := He.obsX_eq (HandSHeadRun.getT_eq s)
theorem run (w : World) : HandSHeadRun.RunEq RR (PySem.W.view RR.prog [35]) hk ob 2000 lsL w := by
  intro os
  kernel_rfl
theorem law_at {w : World} {h : Heap} {mg : Str → Option Value} {fa : Addr} (X : K.In h) (G : h.Ns mainGlobals mg) (c : He.SaysX faL fnL [] [("law", none)] exL w h K) (hfa : mg ("law" : Str) = some (.ref fa)) :
    LamX.LawAtS PySem.Challenge.rw_denserows_k68_any_shares_judged w K CX0 15 63 "script" mg fa h := by
  have Z := nv_ok X G c.t.d
  obtain ⟨fL, fd, FL, hmg⟩ := Z.f_law
  have ef : fL = fa := by rw [hfa] at hmg; cases hmg; rfl
  subst ef
  obtain ⟨fd1, F1⟩ := c.t.d.def_ 27 (d := di_BadCounts) rfl
  have F1' : Fun K "__init__" "BadCounts.__init__" si_BadCounts (He.ma K (He.ga K "BadCounts") "__init__") fd1 := fun_of F1
  have E := errB_ok (K := K) (x := "BadCounts") (f := "counts") (by have := c.more; unfold exL at this; exact (Bool.and_eq_true_iff.mp this).1)
  obtain ⟨oc, od, kV, doc, pm, an, cdv, ct, osl, rfl, lk, hcd⟩ := FL.ex
  obtain ⟨cc, rfl⟩ := He.codeIn_ref hcd
  have eL : fL = He.fAd K ("law", none) := by
    have e2 := He.glo_ok X G (x := "law") (c.t.d.fact 43 (f := .glo "law") rfl)
    rw [hfa] at e2
    cases e2; rfl
  have ec : He.codeOf K ("law", none) = cc := He.codeOf_eq (by rw [← eL]; exact lk) rfl
  refine ⟨PySem.W.fnOf "law" "law" (defArgs s_law) (defBody s_law) (defScope s_law) .none kV doc pm an (.ref cc) ct, [He.cT K ("law", none)], liftSpT K [((He.cT K ("law", none)).2, "law.<locals>.<lambda>")] r_law, fun p hp => ?_, fun p hp => ?_, fun p hp => ?_, fun s u => .of_eq rfl, fun H a ns hl _ hT hS => ?_, fun base hb hn hTB => ?_⟩
  · rw [List.mem_singleton.mp hp]; exact c.empty _ (List.mem_singleton.mpr rfl)
  · rw [List.mem_singleton.mp hp]; exact c.out _ (List.mem_singleton.mpr rfl)
  · rw [List.mem_singleton.mp hp]; exact PySem.W.codeHd_of_K X (c.hd _ (List.mem_singleton.mpr rfl))
  · obtain ⟨F, hR, hr⟩ := start_law (tb := [((He.cT K ("law", none)).2, "law.<locals>.<lambda>")]) (fun p hp => by rw [List.mem_singleton.mp hp]; exact hT _ (List.mem_singleton.mpr rfl)) hS
    refine ⟨F, _, _, .cons hr .nil, hR, fun d _ => d = .bl true, ⟨ns, rfl, hl, fun _ => rfl⟩, fun d A' v H' F' e _ r => ?_⟩
    subst e
    exact r.bl_inv
  · have TB := hTB _ (List.mem_singleton.mpr rfl)
    have e1 : (He.cT K ("law", none)).1 = cc := ec
    rw [e1] at TB
    exact fn_law Z (err_of X G E rfl F1' sci_BadCounts rfl (fun _ _ _ _ _ _ us hl => match us, hl with | [_, _], _ => rfl)) E.xf E.no E.exm lk hcd TB
end
end K68
open PySem PySem.W PySem.Calls PyProof.Rows
set_option maxRecDepth 100000 in
set_option maxHeartbeats 0 in
theorem PySem.Challenge.cw_denserows_k68_any_shares_judged_holds : PySem.Challenge.rw_denserows_k68_any_shares_judged.Holds := by
  w_on; o_law
  refine HandSHeadRun.head_any (r := OpenLaw.row PySem.Challenge.rw_denserows_k68_any_shares_judged) (q := view (OpenLaw.row PySem.Challenge.rw_denserows_k68_any_shares_judged).prog [35]) (H := K68.hk) (ob := K68.ob) (M := 2000) (loose := K68.lsL) (d := HandSHeadRun.topDef (OpenLaw.row PySem.Challenge.rw_denserows_k68_any_shares_judged).prog 35) (kwd := []) K68.ob_eq
    (by kernel_rfl) (fun s => by kernel_rfl) K68.run (by kernel_rfl) (by kernel_rfl) (by kernel_rfl) (by rfl) (by first | assumption | decide +kernel) (by decide +kernel) ⟨rfl, rfl, rfl, rfl, rfl, by decide +kernel⟩ ?hw ?hc
  case hw => w_witness2
  case hc =>
    refine LamX.walk_ofTsE (l := PySem.Challenge.rw_denserows_k68_any_shares_judged) (n := 63) (k := 15) (x := "script") (CX := fun _ => L2.CX0) rfl (by decide) (by kernel_rfl) ⟨rfl, by decide, by decide⟩ ?F (fun _ _ _ _ _ z => z)
    intro w mg fa h Y G hmg0
    obtain ⟨K, KX, c⟩ := Y
    have hmg : mg ("law" : PySem.Str) = some (.ref fa) := by
      have e : (HandSHeadRun.topDef (OpenLaw.row PySem.Challenge.rw_denserows_k68_any_shares_judged).prog 35).name = ("law" : PySem.Str) := by kernel_rfl
      rw [← e]
      exact hmg0
    exact ⟨K, KX, K68.law_at KX G c hmg⟩


