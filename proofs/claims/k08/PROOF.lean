import PyProof.Rows.All
import Wide.All
import OpenK.AllK
import Wide.FinOn
import HandS.ForMost
import HandS.IsInst
import HandS.Zip
import HandS.TupAny
import HandS.Conv
import HandS.SortRule
import HandS.Strs
import HandS.TupSets
import HandS.Deep
import HandS.SetFor
import KE.SortData
import KE.DataMinMax
import HandS.Style
import KE.KDictDisplayH
import KE.KRevSl
import KE.GoesEnum
import PySem.Challenge.RW_asifforever_k08_whole_merging_rows_and_b
set_option Elab.async false
set_option linter.all false
set_option maxRecDepth 100000
set_option maxHeartbeats 4000000
/-! A logic of kinds over the hand layer: what a slot holds is a datum; the heap is hidden. -/
namespace A8
open PySem PySem.Spec PyProof.Rows L2

/-! ### data -/
inductive Dt where
  | non | bl (b : Bool) | int (i : Int) | str (s : Str)
  | tup (l : List Dt) | tuq (l : List Dt) | lst (l : List Dt) | lsq (l : List Dt) | dic | sys (n : Int) (l : List Dt) | rng (lo hi : Int) | ty (n : String)

mutual
inductive Rp (K : PySem.W.Frag) (C : Addr) (F : Hp) : V → Dt → Prop where
  | non : Rp K C F .non .non
  | bl (b : Bool) : Rp K C F (.bl b) (.bl b)
  | int (i : Int) : Rp K C F (.int i) (.int i)
  | str (x : Str) : Rp K C F (.str x) (.str x)
  | tup {a : Addr} {xs : List V} {ds : List Dt} : F a = some (.tup xs) → RpL K C F xs ds → Rp K C F (.ref a) (.tup ds)
  | tuq {a : Addr} {xs : List V} {ds : List Dt} : SqT K F a xs → RpL K C F xs ds → Rp K C F (.ref a) (.tuq ds)
  | lst {a : Addr} {xs : List V} {ds : List Dt} : F a = some (.lst xs) → RpL K C F xs ds → Rp K C F (.ref a) (.lst ds)
  | lsq {a : Addr} {xs : List V} {ds : List Dt} : SqL K F a xs → RpL K C F xs ds → Rp K C F (.ref a) (.lsq ds)
  | dic {a : Addr} {kvs : List (Key × V)} : F a = some (.dK kvs) → Rp K C F (.ref a) .dic
  | sys {a dx : Addr} {v : V} {n : Int} {ds : List Dt} : F a = some (.ins C dx [("many", .int n), ("moves", v)]) → Rp K C F v (.tup ds) → Rp K C F (.ref a) (.sys n ds)
  | rng {a : Addr} {lo hi : Int} : F a = some (.rng lo hi) → Rp K C F (.ref a) (.rng lo hi)
  | ty (n : String) : Rp K C F (.ty n) (.ty n)
inductive RpL (K : PySem.W.Frag) (C : Addr) (F : Hp) : List V → List Dt → Prop where
  | nil : RpL K C F [] []
  | cons {v : V} {vs : List V} {d : Dt} {ds : List Dt} : Rp K C F v d → RpL K C F vs ds → RpL K C F (v :: vs) (d :: ds)
end

def Ex (F H : Hp) : Prop := ∀ a o, F a = some o → H a = some o
theorem Ex.refl (H : Hp) : Ex H H := fun _ _ h => h
theorem Ex.trans {H H1 H2 : Hp} (a : Ex H H1) (b : Ex H1 H2) : Ex H H2 := fun x o h => b x o (a x o h)
theorem Ex.new {H : Hp} {p : Addr} {o : HO} (h : H p = none) : Ex H (upd H p o) := fun a u e => by
  rw [upd_ne (ne_of_none e h)]
  exact e
theorem Ex.mut {F H : Hp} {p : Addr} {o : HO} (e : Ex F H) (h : F p = none) : Ex F (upd H p o) := fun a u ha => by
  rw [upd_ne (ne_of_none ha h)]
  exact e a u ha
theorem Ex.none {F H : Hp} {p : Addr} (e : Ex F H) (h : H p = none) : F p = none := by
  cases q : F p with
  | none => rfl
  | some o =>
    rw [e p o q] at h
    cases h
theorem ex_l {K : PySem.W.Frag} {H H' : Hp} {a : Addr} {xs : List V} (e : Ex H H') (h : SqL K H a xs) : SqL K H' a xs := by
  rcases h with (h | ⟨o, h⟩) | h
  · exact .inl (.inl (e _ _ h))
  · exact .inl (.inr ⟨o, e _ _ h⟩)
  · exact .inr h
theorem ex_t {K : PySem.W.Frag} {H H' : Hp} {a : Addr} {xs : List V} (e : Ex H H') (h : SqT K H a xs) : SqT K H' a xs := by
  rcases h with (h | ⟨o, h⟩) | h
  · exact .inl (.inl (e _ _ h))
  · exact .inl (.inr ⟨o, e _ _ h⟩)
  · exact .inr h

section
variable {K : PySem.W.Frag} {C : Addr}
mutual
theorem Rp.mono {F F' : Hp} (e : Ex F F') : ∀ {d : Dt} {v : V}, Rp K C F v d → Rp K C F' v d
  | .non, _, .non => .non
  | .bl _, _, .bl b => .bl b
  | .int _, _, .int b => .int b
  | .str _, _, .str b => .str b
  | .tup _, _, .tup h r => .tup (e _ _ h) (RpL.mono e r)
  | .tuq _, _, .tuq h r => .tuq (ex_t e h) (RpL.mono e r)
  | .lst _, _, .lst h r => .lst (e _ _ h) (RpL.mono e r)
  | .lsq _, _, .lsq h r => .lsq (ex_l e h) (RpL.mono e r)
  | .dic, _, .dic h => .dic (e _ _ h)
  | .sys _ _, _, .sys h (.tup h2 r) => .sys (e _ _ h) (.tup (e _ _ h2) (RpL.mono e r))
  | .rng _ _, _, .rng h => .rng (e _ _ h)
  | .ty _, _, .ty n => .ty n
theorem RpL.mono {F F' : Hp} (e : Ex F F') : ∀ {ds : List Dt} {vs : List V}, RpL K C F vs ds → RpL K C F' vs ds
  | [], _, .nil => .nil
  | _ :: _, _, .cons r t => .cons (Rp.mono e r) (RpL.mono e t)
end
theorem RpL.length {F : Hp} : ∀ {vs : List V} {ds : List Dt}, RpL K C F vs ds → vs.length = ds.length
  | _, _, .nil => rfl
  | _, _, .cons _ t => by rw [List.length_cons, List.length_cons, RpL.length t]
theorem RpL.get {F : Hp} : ∀ {vs : List V} {ds : List Dt} {i : Nat} {d : Dt}, RpL K C F vs ds → ds[i]? = some d → ∃ v, vs[i]? = some v ∧ Rp K C F v d
  | _, _, _, _, .nil, e => by simp at e
  | _, _, 0, _, .cons r _, e => by simp at e; subst e; exact ⟨_, rfl, r⟩
  | _, _, i + 1, d, .cons _ t, e => by
    obtain ⟨v, h1, h2⟩ := RpL.get (i := i) (d := d) t (by simpa using e)
    exact ⟨v, by simpa using h1, h2⟩
theorem RpL.getV {F : Hp} : ∀ {vs : List V} {ds : List Dt} {i : Nat} {v : V}, RpL K C F vs ds → vs[i]? = some v → ∃ d, ds[i]? = some d ∧ Rp K C F v d
  | _, _, _, _, .nil, e => by simp at e
  | _, _, 0, _, .cons r _, e => by simp at e; subst e; exact ⟨_, rfl, r⟩
  | _, _, i + 1, d, .cons _ t, e => by
    obtain ⟨v, h1, h2⟩ := RpL.getV (i := i) (v := d) t (by simpa using e)
    exact ⟨v, by simpa using h1, h2⟩
theorem RpL.append {F : Hp} : ∀ {vs ws : List V} {ds es : List Dt}, RpL K C F vs ds → RpL K C F ws es → RpL K C F (vs ++ ws) (ds ++ es)
  | _, _, _, _, .nil, s => s
  | _, _, _, _, .cons r t, s => .cons r (RpL.append t s)
theorem RpL.take {F : Hp} : ∀ {vs : List V} {ds : List Dt} (n : Nat), RpL K C F vs ds → RpL K C F (vs.take n) (ds.take n)
  | _, _, 0, _ => .nil
  | _, _, _ + 1, .nil => .nil
  | _, _, n + 1, .cons r t => .cons r (RpL.take n t)
theorem RpL.drop {F : Hp} : ∀ {vs : List V} {ds : List Dt} (n : Nat), RpL K C F vs ds → RpL K C F (vs.drop n) (ds.drop n)
  | _, _, 0, r => r
  | _, _, _ + 1, .nil => .nil
  | _, _, n + 1, .cons _ t => RpL.drop n t
theorem RpL.set {F : Hp} {v : V} {d : Dt} (r : Rp K C F v d) : ∀ {vs : List V} {ds : List Dt} (n : Nat), RpL K C F vs ds → RpL K C F (vs.set n v) (ds.set n d)
  | _, _, _, .nil => .nil
  | _, _, 0, .cons _ t => .cons r t
  | _, _, n + 1, .cons q t => .cons q (RpL.set r n t)
theorem RpL.eraseIdx {F : Hp} : ∀ {vs : List V} {ds : List Dt} (n : Nat), RpL K C F vs ds → RpL K C F (vs.eraseIdx n) (ds.eraseIdx n)
  | _, _, _, .nil => .nil
  | _, _, 0, .cons _ t => t
  | _, _, n + 1, .cons q t => .cons q (RpL.eraseIdx n t)
theorem RpL.reverse {F : Hp} : ∀ {vs : List V} {ds : List Dt}, RpL K C F vs ds → RpL K C F vs.reverse ds.reverse
  | _, _, .nil => .nil
  | _, _, .cons r t => by rw [List.reverse_cons, List.reverse_cons]; exact (RpL.reverse t).append (.cons r .nil)
theorem RpL.ints {F : Hp} : ∀ {vs : List V} (ns : List Int), RpL K C F vs (ns.map Dt.int) → vs = ns.map V.int
  | _, [], h => by cases h; rfl
  | _, n :: ns, h => by
    rw [List.map_cons] at h
    cases h with
    | cons r t =>
      cases r
      rw [RpL.ints ns t]
      rfl
theorem RpL.of_ints {F : Hp} : ∀ (ns : List Int), RpL K C F (ns.map V.int) (ns.map Dt.int)
  | [] => .nil
  | n :: ns => .cons (.int n) (RpL.of_ints ns)
theorem RpL.bls {F : Hp} : ∀ {vs : List V} (ns : List Bool), RpL K C F vs (ns.map Dt.bl) → vs = ns.map V.bl
  | _, [], h => by cases h; rfl
  | _, n :: ns, h => by
    rw [List.map_cons] at h
    cases h with
    | cons r t =>
      cases r
      rw [RpL.bls ns t]
      rfl
theorem RpL.mem {F : Hp} : ∀ {vs : List V} {ds : List Dt} {v : V}, RpL K C F vs ds → v ∈ vs → ∃ d ∈ ds, Rp K C F v d
  | _, _, _, .nil, h => by cases h
  | _, _, v, .cons r t, h => by
    rcases List.mem_cons.mp h with e | h
    · subst e; exact ⟨_, List.mem_cons_self, r⟩
    · obtain ⟨d, hd, q⟩ := RpL.mem t h
      exact ⟨d, List.mem_cons_of_mem _ hd, q⟩

/-! ### data as the library's data -/
mutual
def Dt.py : Dt → PyData
  | .non => .none
  | .bl b => .bool b
  | .int i => .int i
  | .str s => .str s
  | .tup l => .tuple (Dt.pyL l)
  | .tuq l => .tuple (Dt.pyL l)
  | .lst l => .list (Dt.pyL l)
  | .lsq l => .list (Dt.pyL l)
  | _ => .none
def Dt.pyL : List Dt → List PyData
  | [] => []
  | d :: ds => d.py :: Dt.pyL ds
end
mutual
def Dt.pl : Dt → Bool
  | .non => true
  | .bl _ => true
  | .int _ => true
  | .str _ => true
  | .tup l => Dt.plL l
  | .tuq l => Dt.plL l
  | .lst l => Dt.plL l
  | .lsq l => Dt.plL l
  | _ => false
def Dt.plL : List Dt → Bool
  | [] => true
  | d :: ds => d.pl && Dt.plL ds
end
theorem Dt.pyL_eq : ∀ l : List Dt, Dt.pyL l = l.map Dt.py
  | [] => by rw [Dt.pyL]; rfl
  | d :: l => by rw [Dt.pyL, Dt.pyL_eq l]; rfl
theorem Dt.plL_eq : ∀ l : List Dt, Dt.plL l = l.all Dt.pl
  | [] => by rw [Dt.plL]; rfl
  | d :: l => by rw [Dt.plL, Dt.plL_eq l]; rfl
mutual
theorem Rp.dp {F : Hp} : ∀ {d : Dt} {v : V}, d.pl = true → Rp K C F v d → Dp K F v d.py
  | .non, _, _, .non => by rw [Dt.py]; exact .non
  | .bl _, _, _, .bl b => by rw [Dt.py]; exact .bl b
  | .int _, _, _, .int b => by rw [Dt.py]; exact .int b
  | .str _, _, _, .str b => by rw [Dt.py]; exact .str b
  | .tup _, _, p, .tup h r => by rw [Dt.pl] at p; rw [Dt.py]; exact .tup (SqT.of h) (RpL.dp p r)
  | .tuq _, _, p, .tuq h r => by rw [Dt.pl] at p; rw [Dt.py]; exact .tup h (RpL.dp p r)
  | .lst _, _, p, .lst h r => by rw [Dt.pl] at p; rw [Dt.py]; exact .lst (SqL.of h) (RpL.dp p r)
  | .lsq _, _, p, .lsq h r => by rw [Dt.pl] at p; rw [Dt.py]; exact .lst h (RpL.dp p r)
  | .dic, _, p, _ => by simp [Dt.pl] at p
  | .sys _ _, _, p, _ => by simp [Dt.pl] at p
  | .rng _ _, _, p, _ => by simp [Dt.pl] at p
  | .ty _, _, p, _ => by simp [Dt.pl] at p
theorem RpL.dp {F : Hp} : ∀ {ds : List Dt} {vs : List V}, Dt.plL ds = true → RpL K C F vs ds → DpAll K F vs (Dt.pyL ds)
  | [], _, _, .nil => by rw [Dt.pyL]; exact .nil
  | _ :: _, _, p, .cons r t => by
    rw [Dt.plL, Bool.and_eq_true] at p
    rw [Dt.pyL]
    exact .cons (Rp.dp p.1 r) (RpL.dp p.2 t)
end
end

/-! ### what a slot holds -/
inductive Ki where
  | un | dat (d : Dt) | ol (ds : List Dt) | od (kvs : List (List Nat × Dt)) | vl (ds : List Dt) | vd (kvs : List (List Nat × Dt)) | hand | la (a : Addr) (ds : List Dt) | ob (a dx : Addr) (fs : List (Str × Dt))
def OwnK : Ki → Prop
  | .ol _ => True
  | .la _ _ => True
  | .ob _ _ _ => True
  | .od _ => True
  | _ => False
/-- what may be kept in a slot -/
def KeepK : Ki → Prop
  | .vl _ => False
  | .vd _ => False
  | _ => True
def kN (n : Nat) : Key := .inl (n : Int)
inductive DRp (K : PySem.W.Frag) (C : Addr) (F : Hp) : List (List Key × V) → List (List Nat × Dt) → Prop where
  | nil : DRp K C F [] []
  | cons {k : List Nat} {v : V} {d : Dt} {vs : List (List Key × V)} {ds : List (List Nat × Dt)} : Rp K C F v d → DRp K C F vs ds → DRp K C F ((k.map kN, v) :: vs) ((k, d) :: ds)
theorem DRp.mono {K : PySem.W.Frag} {C : Addr} {F F' : Hp} (e : Ex F F') : ∀ {vs : List (List Key × V)} {ds : List (List Nat × Dt)}, DRp K C F vs ds → DRp K C F' vs ds
  | _, _, .nil => .nil
  | _, _, .cons r t => .cons (r.mono e) (t.mono e)
theorem DRp.length {K : PySem.W.Frag} {C : Addr} {F : Hp} : ∀ {vs : List (List Key × V)} {ds : List (List Nat × Dt)}, DRp K C F vs ds → vs.length = ds.length
  | _, _, .nil => rfl
  | _, _, .cons r t => by rw [List.length_cons, List.length_cons, t.length]

inductive FRp (K : PySem.W.Frag) (C : Addr) (F : Hp) : List (Str × V) → List (Str × Dt) → Prop where
  | nil : FRp K C F [] []
  | cons {x : Str} {v : V} {d : Dt} {vs : List (Str × V)} {ds : List (Str × Dt)} : Rp K C F v d → FRp K C F vs ds → FRp K C F ((x, v) :: vs) ((x, d) :: ds)
theorem FRp.mono {K : PySem.W.Frag} {C : Addr} {F F' : Hp} (e : Ex F F') : ∀ {vs : List (Str × V)} {ds : List (Str × Dt)}, FRp K C F vs ds → FRp K C F' vs ds
  | _, _, .nil => .nil
  | _, _, .cons r t => .cons (r.mono e) (t.mono e)
/-- the hand: the list of the draws (at p), its cells (at c) -/
abbrev Hd := Option (Addr × Addr)
def Hand (hd : Hd) (F H : Hp) : Prop := ∀ p c, hd = some (p, c) → F p = none ∧ ∃ c' : Addr, (∃ (i w x n : Int), H p = some (.lst [.ref c', .int i, .int w, .int x, .int n]) ∧ 0 ≤ i ∧ 0 ≤ w ∧ 0 ≤ x ∧ x < 4294967296 ∧ 0 ≤ n) ∧
  ∃ cs : List Int, F c' = some (.lst (cs.map V.int)) ∧ ∀ z ∈ cs, 0 ≤ z
def ExB (hd : Hd) (H H' : Hp) : Prop := ∀ a o, (∀ p c, hd = some (p, c) → a ≠ p) → H a = some o → H' a = some o
def Ext (F F' H : Hp) : Prop := Ex F F' ∧ ∀ a o, H a = some o → F' a = F a
structure Wd (hd : Hd) (F H : Hp) : Prop where
  ex : Ex F H
  hand : Hand hd F H
structure Stp (hd : Hd) (F H F' H' : Hp) : Prop where
  b : ExB hd H H'
  e : Ext F F' H
  wd : Wd hd F' H'
section
variable {hd : Hd} {F H F' H' F1 H1 F2 H2 : Hp}
theorem Wd.ha (w : Wd hd F H) {p c : Addr} (h : hd = some (p, c)) : ∃ o, H p = some o := by
  obtain ⟨_, _, ⟨i, w, x, n, e, _⟩, _⟩ := w.hand p c h
  exact ⟨_, e⟩
theorem Stp.refl (w : Wd hd F H) : Stp hd F H F H := ⟨fun _ _ _ h => h, ⟨Ex.refl F, fun _ _ _ => rfl⟩, w⟩
/-- an address tracked before is tracked behind -/
theorem Stp.tr (s : Stp hd F H F' H') {a : Addr} {o : HO} (h : H a = some o) : ∃ o', H' a = some o' := by
  by_cases q : ∃ p c, hd = some (p, c) ∧ a = p
  · obtain ⟨p, c, e, rfl⟩ := q
    exact s.wd.ha e
  · exact ⟨o, s.b a o (fun p c e z => q ⟨p, c, e, z⟩) h⟩
theorem Stp.trans (s : Stp hd F H F1 H1) (t : Stp hd F1 H1 F2 H2) : Stp hd F H F2 H2 := by
  refine ⟨fun a o n h => t.b a o n (s.b a o n h), ⟨s.e.1.trans t.e.1, fun a o h => ?_⟩, t.wd⟩
  obtain ⟨o', h'⟩ := s.tr h
  rw [t.e.2 a o' h', s.e.2 a o h]
theorem Stp.new (w : Wd hd F H) {p : Addr} {o : HO} (h : H p = none) : Stp hd F H (upd F p o) (upd H p o) := by
  refine ⟨fun a u _ e => Ex.new h a u e, ⟨Ex.new (w.ex.none h), fun a u e => upd_ne (ne_of_none e h)⟩, ⟨fun a u e => ?_, fun q c e => ?_⟩⟩
  · by_cases z : a = p
    · subst z
      rw [upd_same] at e ⊢
      exact e
    · rw [upd_ne z] at e ⊢
      exact w.ex a u e
  · obtain ⟨h1, c', ⟨i, w', x, n, h2, h3⟩, cs, h4, h5⟩ := w.hand q c e
    have n1 : q ≠ p := ne_of_none h2 h
    have n2 : c' ≠ p := ne_of_none (w.ex _ _ h4) h
    exact ⟨by rw [upd_ne n1]; exact h1, c', ⟨i, w', x, n, by rw [upd_ne n1]; exact h2, h3⟩, cs, by rw [upd_ne n2]; exact h4, h5⟩
/-- a new object that is not told as known -/
theorem Stp.own (w : Wd hd F H) {p : Addr} {o : HO} (h : H p = none) : Stp hd F H F (upd H p o) := by
  refine ⟨fun a u _ e => Ex.new h a u e, ⟨Ex.refl F, fun _ _ _ => rfl⟩, ⟨w.ex.trans (Ex.new h), fun q c e => ?_⟩⟩
  obtain ⟨h1, c', ⟨i, w', x, n, h2, h3⟩, cs, h4, h5⟩ := w.hand q c e
  have n1 : q ≠ p := ne_of_none h2 h
  exact ⟨h1, c', ⟨i, w', x, n, by rw [upd_ne n1]; exact h2, h3⟩, cs, h4, h5⟩
end

section
variable {hd : Hd} {F H F' H' F1 H1 F2 H2 : Hp}
theorem Wd.ne (w : Wd hd F H) {D : Addr} (h : H D = none) : ∀ p c, hd = some (p, c) → D ≠ p := fun p c e z => by
  obtain ⟨o, ho⟩ := w.ha e
  rw [← z, h] at ho
  cases ho
/-- a thing that is no known one is changed -/
theorem Wd.mut (w : Wd hd F H) {D : Addr} {o : HO} (hF : F D = none) (n : ∀ p c, hd = some (p, c) → D ≠ p) : Wd hd F (upd H D o) := by
  refine ⟨w.ex.mut hF, fun q c e => ?_⟩
  obtain ⟨h1, c', ⟨i, w', x, n', h2, h3⟩, cs, h4, h5⟩ := w.hand q c e
  exact ⟨h1, c', ⟨i, w', x, n', by rw [upd_ne (Ne.symm (n q c e))]; exact h2, h3⟩, cs, h4, h5⟩
theorem Stp.mut (s : Stp hd F1 H1 F H) {D : Addr} {o : HO} (h1 : H1 D = none) (hF : F D = none) (n : ∀ p c, hd = some (p, c) → D ≠ p) : Stp hd F1 H1 F (upd H D o) :=
  ⟨fun a u k e => by rw [upd_ne (ne_of_none e h1)]; exact s.b a u k e, s.e, s.wd.mut hF n⟩
theorem Wd.freeze (w : Wd hd F H) {D : Addr} {o : HO} (h : H D = some o) (n : ∀ p c, hd = some (p, c) → D ≠ p) (hF : F D = none) : Wd hd (upd F D o) H := by
  refine ⟨fun a u e => ?_, fun q c e => ?_⟩
  · by_cases z : a = D
    · subst z
      rw [upd_same] at e
      rw [h]
      exact e
    · rw [upd_ne z] at e
      exact w.ex a u e
  · obtain ⟨h1, c', h2, cs, h4, h5⟩ := w.hand q c e
    exact ⟨by rw [upd_ne (Ne.symm (n q c e))]; exact h1, c', h2, cs, by rw [upd_ne (ne_of_none h4 hF)]; exact h4, h5⟩
theorem Stp.freeze (s : Stp hd F1 H1 F H) {D : Addr} {o : HO} (h1 : H1 D = none) (hF : F D = none) (h : H D = some o) (n : ∀ p c, hd = some (p, c) → D ≠ p) : Stp hd F1 H1 (upd F D o) H :=
  ⟨s.b, ⟨s.e.1.trans (Ex.new hF), fun a u e => by rw [upd_ne (ne_of_none e h1)]; exact s.e.2 a u e⟩, s.wd.freeze h n hF⟩
/-- what the known lacks, it lacks behind -/
theorem Stp.lack (s : Stp hd F H F1 H1) {D : Addr} {o : HO} (h : H D = some o) (hF : F D = none) : F1 D = none := by rw [s.e.2 D o h]; exact hF
end

section
variable {K : PySem.W.Frag} {C : Addr} {hd : Hd}
def KiOk (K : PySem.W.Frag) (C : Addr) (hd : Hd) (F H : Hp) : Ki → V → Prop
  | .un, _ => True
  | .dat d, v => Rp K C F v d
  | .ol ds, v => ∃ a xs, v = .ref a ∧ H a = some (.lst xs) ∧ RpL K C F xs ds ∧ ∀ p c, hd = some (p, c) → a ≠ p
  | .od kvs, v => ∃ a vs, v = .ref a ∧ H a = some (.dT vs) ∧ DRp K C F vs kvs ∧ ∀ p c, hd = some (p, c) → a ≠ p
  | .vl ds, v => ∃ a xs, v = .ref a ∧ H a = some (.lst xs) ∧ RpL K C F xs ds ∧ ∀ p c, hd = some (p, c) → a ≠ p
  | .vd kvs, v => ∃ a vs, v = .ref a ∧ H a = some (.dT vs) ∧ DRp K C F vs kvs ∧ ∀ p c, hd = some (p, c) → a ≠ p
  | .hand, v => ∃ p c, hd = some (p, c) ∧ v = .ref p
  | .la b ds, v => v = .ref b ∧ ∃ xs, H b = some (.lst xs) ∧ RpL K C F xs ds ∧ ∀ p c, hd = some (p, c) → b ≠ p
  | .ob b dx fs, v => v = .ref b ∧ ∃ xs, H b = some (.ins C dx xs) ∧ FRp K C F xs fs ∧ ∀ p c, hd = some (p, c) → b ≠ p
/-- an own thing is new, and not told as known -/
def Fr (k : Ki) (v : V) (H F' : Hp) : Prop := OwnK k → ∀ a, v = .ref a → H a = none ∧ F' a = none
theorem Fr.dat {d : Dt} {v : V} {H F' : Hp} : Fr (.dat d) v H F' := fun z => z.elim
theorem Fr.back {k : Ki} {v : V} {hd : Hd} {F H F1 H1 F' : Hp} (s : Stp hd F H F1 H1) (h : Fr k v H1 F') : Fr k v H F' := fun z a e => by
  obtain ⟨h1, h2⟩ := h z a e
  refine ⟨?_, h2⟩
  cases q : H a with
  | none => rfl
  | some o =>
    obtain ⟨o', h'⟩ := s.tr q
    rw [h1] at h'
    cases h'
variable {F H F' H' : Hp}
theorem KiOk.mono (s : Stp hd F H F' H') : ∀ {k : Ki} {v : V}, KiOk K C hd F H k v → KiOk K C hd F' H' k v
  | .un, _, _ => True.intro
  | .dat _, _, h => Rp.mono s.e.1 h
  | .ol _, _, ⟨a, xs, e, h, r, n⟩ => ⟨a, xs, e, s.b a _ n h, r.mono s.e.1, n⟩
  | .od _, _, ⟨a, xs, e, h, r, n⟩ => ⟨a, xs, e, s.b a _ n h, r.mono s.e.1, n⟩
  | .vl _, _, ⟨a, xs, e, h, r, n⟩ => ⟨a, xs, e, s.b a _ n h, r.mono s.e.1, n⟩
  | .vd _, _, ⟨a, xs, e, h, r, n⟩ => ⟨a, xs, e, s.b a _ n h, r.mono s.e.1, n⟩
  | .hand, _, h => h
  | .la _ _, _, ⟨e, xs, h, r, n⟩ => ⟨e, xs, s.b _ _ n h, r.mono s.e.1, n⟩
  | .ob _ _ _, _, ⟨e, xs, h, r, n⟩ => ⟨e, xs, s.b _ _ n h, r.mono s.e.1, n⟩
inductive KsOk (K : PySem.W.Frag) (C : Addr) (hd : Hd) (F H : Hp) : List Ki → List V → Prop where
  | nil : KsOk K C hd F H [] []
  | cons {k : Ki} {v : V} {ks : List Ki} {vs : List V} : KiOk K C hd F H k v → KsOk K C hd F H ks vs → KsOk K C hd F H (k :: ks) (v :: vs)
theorem KsOk.mono (s : Stp hd F H F' H') : ∀ {ks : List Ki} {vs : List V}, KsOk K C hd F H ks vs → KsOk K C hd F' H' ks vs
  | _, _, .nil => .nil
  | _, _, .cons h t => .cons (h.mono s) (t.mono s)
theorem KsOk.length : ∀ {ks : List Ki} {vs : List V}, KsOk K C hd F H ks vs → ks.length = vs.length
  | _, _, .nil => rfl
  | _, _, .cons h t => by rw [List.length_cons, List.length_cons, t.length]
theorem KsOk.get : ∀ {ks : List Ki} {vs : List V} {i : Nat} {k : Ki}, KsOk K C hd F H ks vs → ks[i]? = some k → ∃ v, vs[i]? = some v ∧ KiOk K C hd F H k v
  | _, _, _, _, .nil, e => by simp at e
  | _, _, 0, _, .cons r _, e => by simp at e; subst e; exact ⟨_, rfl, r⟩
  | _, _, i + 1, d, .cons _ t, e => by
    obtain ⟨v, h1, h2⟩ := KsOk.get (i := i) (k := d) t (by simpa using e)
    exact ⟨v, by simpa using h1, h2⟩
/-- the slots hold what is told -/
structure Ty (K : PySem.W.Frag) (C : Addr) (hd : Hd) (F H : Hp) (G : List Ki) (σ : L2.St) : Prop where
  len : G.length = σ.length
  ok : ∀ (i : Nat) (k : Ki), G[i]? = some k → k = .un ∨ ∃ v, σ[i]? = some (some v) ∧ KiOk K C hd F H k v
theorem Ty.mono {G : List Ki} {σ : L2.St} (t : Ty K C hd F H G σ) (s : Stp hd F H F' H') : Ty K C hd F' H' G σ :=
  ⟨t.len, fun i k e => (t.ok i k e).imp id fun ⟨v, h1, h2⟩ => ⟨v, h1, h2.mono s⟩⟩
theorem Ty.set {G : List Ki} {σ : L2.St} (t : Ty K C hd F H G σ) (i : Nat) {k : Ki} {v : V} (h : KiOk K C hd F H k v) : Ty K C hd F H (G.set i k) (σ.set i (some v)) := by
  refine ⟨by rw [List.length_set, List.length_set, t.len], fun j k' e => ?_⟩
  by_cases z : i = j
  · subst z
    by_cases l : i < G.length
    · rw [List.getElem?_set_self l] at e
      cases e
      exact .inr ⟨v, List.getElem?_set_self (by rw [← t.len]; exact l), h⟩
    · rw [List.getElem?_eq_none (by rw [List.length_set]; omega)] at e
      cases e
  · rw [List.getElem?_set_ne z] at e
    rw [List.getElem?_set_ne z]
    exact t.ok j k' e
theorem Ty.forget {G : List Ki} {σ : L2.St} (t : Ty K C hd F H G σ) (i : Nat) : Ty K C hd F H (G.set i .un) (σ.set i none) := by
  refine ⟨by rw [List.length_set, List.length_set, t.len], fun j k' e => ?_⟩
  by_cases z : i = j
  · subst z
    by_cases l : i < G.length
    · rw [List.getElem?_set_self l] at e
      cases e
      exact .inl rfl
    · rw [List.getElem?_eq_none (by rw [List.length_set]; omega)] at e
      cases e
  · rw [List.getElem?_set_ne z] at e
    rw [List.getElem?_set_ne z]
    exact t.ok j k' e
def wipeK (G : List Ki) : List Nat → List Ki
  | [] => G
  | v :: vs => (wipeK G vs).set v .un
theorem Ty.wipe {G : List Ki} {σ : L2.St} (t : Ty K C hd F H G σ) : ∀ vs : List Nat, Ty K C hd F H (wipeK G vs) (wipe σ vs)
  | [] => t
  | v :: vs => (t.wipe vs).forget v
theorem Ty.at {G : List Ki} {σ : L2.St} (t : Ty K C hd F H G σ) {i : Nat} {k : Ki} (e : G[i]? = some k) (n : k ≠ .un) : ∃ v, σ[i]? = some (some v) ∧ KiOk K C hd F H k v :=
  (t.ok i k e).resolve_left n
theorem wipe_at (σ : L2.St) : ∀ (vs : List Nat) (i : Nat), (wipe σ vs)[i]? = if i ∈ vs then σ[i]?.map (fun _ => none) else σ[i]?
  | [], i => by simp [wipe]
  | v :: vs, i => by
    unfold wipe
    by_cases z : v = i
    · subst z
      rw [if_pos List.mem_cons_self, List.getElem?_set]
      rw [if_pos rfl, wipe_length]
      by_cases l : v < σ.length
      · rw [if_pos l, List.getElem?_eq_getElem l]; rfl
      · rw [if_neg l, List.getElem?_eq_none (by omega)]; rfl
    · rw [List.getElem?_set_ne z, wipe_at σ vs i]
      have : (i ∈ v :: vs) ↔ i ∈ vs := by
        rw [List.mem_cons]
        exact ⟨fun h => h.resolve_left fun q => z q.symm, .inr⟩
      simp only [this]
theorem nones_eq {l σ : L2.St} (hl : l.length = σ.length) (i : Nat) : (l[i]?).map (fun _ => (none : Option V)) = (σ[i]?).map (fun _ => none) := by
  by_cases q : i < σ.length
  · rw [List.getElem?_eq_getElem q, List.getElem?_eq_getElem (by omega)] <;> rfl
  · rw [List.getElem?_eq_none (by omega), List.getElem?_eq_none (by omega)]
theorem wipe_set {σ : L2.St} {vs : List Nat} {j : Nat} {x : Option V} (h : j ∈ vs) : wipe ((wipe σ vs).set j x) vs = wipe σ vs := by
  apply List.ext_getElem?
  intro i
  rw [wipe_at, wipe_at]
  by_cases z : i ∈ vs
  · rw [if_pos z, if_pos z]
    exact nones_eq (by rw [List.length_set, wipe_length]) i
  · rw [if_neg z, if_neg z, List.getElem?_set_ne (fun q => z (by rw [← q]; exact h)), wipe_at, if_neg z]
theorem wipe_set2 {σ : L2.St} {vs : List Nat} {j j' : Nat} {x x' : Option V} (h : j ∈ vs) (h' : j' ∈ vs) : wipe (((wipe σ vs).set j x).set j' x') vs = wipe σ vs := by
  apply List.ext_getElem?
  intro i
  rw [wipe_at, wipe_at]
  by_cases z : i ∈ vs
  · rw [if_pos z, if_pos z]
    exact nones_eq (by rw [List.length_set, List.length_set, wipe_length]) i
  · rw [if_neg z, if_neg z, List.getElem?_set_ne (fun q => z (by rw [← q]; exact h')), List.getElem?_set_ne (fun q => z (by rw [← q]; exact h)), wipe_at, if_neg z]
end
end A8
set_option Elab.async false
set_option linter.all false
set_option maxRecDepth 100000
set_option maxHeartbeats 4000000
namespace A8
open PySem PySem.Spec PyProof.Rows L2

/-! ### the judgements -/
structure En where
  P : Program
  w : World
  K : PySem.W.Frag
  mg : Str → Option Value
  base : Heap
  C : Addr
structure Fm where
  N : List Str
  sc : Scope
  fn : Str → Bool
  k : Nat
  hd : Hd
structure FmOk (E : En) (f : Fm) (X : Cx) : Prop where
  en : ∃ C, E = ⟨X.prog, X.w, X.K, X.mg, X.base, C⟩
  calm : X.calm = true
  N : X.N = f.N
  sc : X.env.scope = f.sc
  fn : X.fn = f.fn
  room : Room f.k X.A
  nx : X.xe = fun _ _ => False
  nd : f.N.Nodup
abbrev Ko (E : En) (hd : Hd) (F H : Hp) (k : Ki) (v : V) : Prop := KiOk E.K E.C hd F H k v
def tG (E : En) (hd : Hd) (G : List Ki) (R : Ki → Prop) : TE := fun σ H Q => ∃ F, Wd hd F H ∧ Ty E.K E.C hd F H G σ ∧ ∀ k v F' H', R k → Stp hd F H F' H' → Ko E hd F' H' k v → Fr k v H F' → Q v H'
def tGT (E : En) (hd : Hd) (G : List Ki) (R : Bool → Prop) : TT := fun σ H Q => ∃ F, Wd hd F H ∧ Ty E.K E.C hd F H G σ ∧ ∀ b F' H', R b → Stp hd F H F' H' → Q b H'
def tGA (E : En) (hd : Hd) (G : List Ki) (R : List Ki → Prop) : TA := fun σ H Q => ∃ F, Wd hd F H ∧ Ty E.K E.C hd F H G σ ∧ ∀ ks vs F' H', R ks → Stp hd F H F' H' → KsOk E.K E.C hd F' H' ks vs → Q vs H'
/-- the iterator J yields the data ds, where F is known -/
def ItD (E : En) (hd : Hd) (J : It) (F : Hp) (ds : List Dt) : Prop := ∀ (i : Nat) (F1 H1 : Hp), Ex F F1 → Wd hd F1 H1 →
  (∀ d, ds[i]? = some d → J.go i H1 ∧ ∀ x H', J.yld i H1 x H' → ∃ F', Stp hd F1 H1 F' H' ∧ Rp E.K E.C F' x d) ∧ (ds.length ≤ i → J.stop i H1)
def tGI (E : En) (hd : Hd) (G : List Ki) (R : List Dt → Prop) : TI := fun σ H Q => ∃ F, Wd hd F H ∧ Ty E.K E.C hd F H G σ ∧ ∀ J ds F' H', R ds → Stp hd F H F' H' → ItD E hd J F' ds → Q J H'
def EX (E : En) (f : Fm) (e : Expr) (G : List Ki) (R : Ki → Prop) : Prop := ∀ X, FmOk E f X → PE X e (tG E f.hd G R)
def TX (E : En) (f : Fm) (e : Expr) (G : List Ki) (R : Bool → Prop) : Prop := ∀ X, FmOk E f X → PT X e (tGT E f.hd G R)
def AX (E : En) (f : Fm) (es : List Expr) (G : List Ki) (R : List Ki → Prop) : Prop := ∀ X, FmOk E f X → PA X es (tGA E f.hd G R)
def IX (E : En) (f : Fm) (tg e : Expr) (G : List Ki) (R : List Dt → Prop) : Prop := ∀ X, FmOk E f X → PI X tg e (tGI E f.hd G R)
/-- one datum -/
abbrev one (d : Dt) : Ki → Prop := fun k => k = .dat d
abbrev ED (E : En) (f : Fm) (e : Expr) (G : List Ki) (d : Dt) : Prop := EX E f e G (one d)

section
variable {X : Cx} {e : Expr} {t u : TE}
theorem pe_w (h : PE X e t) (i : ∀ σ H Q, u σ H Q → t σ H Q) : PE X e u := ⟨fun pins s σ H Q I q => h.run pins s σ H Q I (i σ H Q q)⟩
theorem pt_w {t u : TT} (h : PT X e t) (i : ∀ σ H Q, u σ H Q → t σ H Q) : PT X e u := ⟨fun pins s σ H Q I q => h.run pins s σ H Q I (i σ H Q q)⟩
theorem pa_w {es : List Expr} {t u : TA} (h : PA X es t) (i : ∀ σ H Q, u σ H Q → t σ H Q) : PA X es u := ⟨fun pos pins s σ H Q I q => h.run pos pins s σ H Q I (i σ H Q q)⟩
theorem pi_w {tg : Expr} {t u : TI} (h : PI X tg e t) (i : ∀ σ H Q, u σ H Q → t σ H Q) : PI X tg e u := ⟨fun pins s σ H Q I q => h.run pins s σ H Q I (i σ H Q q)⟩
end

variable {E : En} {f : Fm} {G : List Ki} {e a b c : Expr} {es : List Expr} {pos p pos' : Pos} {R Ra Rb : Ki → Prop}
theorem EX.weaken {R' : Ki → Prop} (h : EX E f e G R) (i : ∀ k, R k → R' k) : EX E f e G R' := fun X hX =>
  pe_w (h X hX) fun σ H Q ⟨F, w, t, q⟩ => ⟨F, w, t, fun k v F' H' r => q k v F' H' (i k r)⟩
theorem TX.weaken {R R' : Bool → Prop} (h : TX E f e G R) (i : ∀ k, R k → R' k) : TX E f e G R' := fun X hX =>
  pt_w (h X hX) fun σ H Q ⟨F, w, t, q⟩ => ⟨F, w, t, fun k F' H' r => q k F' H' (i k r)⟩
theorem ED.is {d d' : Dt} (h : ED E f e G d) (q : d = d') : ED E f e G d' := q ▸ h

/-! ### names, constants -/
def VisS (sc : Scope) (x : Str) : Prop := sc.names.lookup x = some .local ∨ sc.names.lookup x = some .cell ∨ sc.names.lookup x = some .free
theorem ex_k {k k0 : Ki} (i : Nat) {x : Str} (hN : f.N[i]? = some x) (hG : G[i]? = some k0) (hk : k0 ≠ .un) (ho : ¬ OwnK k) (hi : ∀ hd F H v, Ko E hd F H k0 v → Ko E hd F H k v)
    (hv : VisS f.sc x := by first | exact Or.inl rfl | exact Or.inr (Or.inl rfl) | exact Or.inr (Or.inr rfl)) (hd : (x == ("__debug__" : Str)) = false := by decide)
    (hcd : (x == ("__classdict__" : Str)) = false := by decide) : EX E f (.Name x pos) G (fun k' => k' = k) := fun X hX => by
  refine pe_w (pe_var (i := i) (by rw [hX.N]; exact hN) (by show VisS X.env.scope x; rw [hX.sc]; exact hv) hd hcd) ?_
  rintro σ H Q ⟨F, w, t, q⟩
  obtain ⟨v, h1, h2⟩ := t.at hG hk
  exact ⟨v, h1, q k v F H rfl (Stp.refl w) (hi _ _ _ _ h2) fun z => absurd z ho⟩
theorem ex_v {d : Dt} (i : Nat) {x : Str} (hN : f.N[i]? = some x := by rfl) (hG : G[i]? = some (.dat d) := by rfl)
    (hv : VisS f.sc x := by first | exact Or.inl rfl | exact Or.inr (Or.inl rfl) | exact Or.inr (Or.inr rfl)) (hd : (x == ("__debug__" : Str)) = false := by decide)
    (hcd : (x == ("__classdict__" : Str)) = false := by decide) : ED E f (.Name x pos) G d := ex_k i hN hG (fun z => nomatch z) (fun z => z) (fun _ _ _ _ h => h) hv hd hcd
/-- an own list, an own dict, looked at; the hand -/
theorem ex_vl {ds : List Dt} (i : Nat) {x : Str} (hN : f.N[i]? = some x := by rfl) (hG : G[i]? = some (.ol ds) := by rfl)
    (hv : VisS f.sc x := by first | exact Or.inl rfl | exact Or.inr (Or.inl rfl) | exact Or.inr (Or.inr rfl)) (hd : (x == ("__debug__" : Str)) = false := by decide)
    (hcd : (x == ("__classdict__" : Str)) = false := by decide) : EX E f (.Name x pos) G (fun k => k = .vl ds) := ex_k i hN hG (fun z => nomatch z) (fun z => z) (fun _ _ _ _ h => h) hv hd hcd
theorem ex_vd {kvs : List (List Nat × Dt)} (i : Nat) {x : Str} (hN : f.N[i]? = some x := by rfl) (hG : G[i]? = some (.od kvs) := by rfl)
    (hv : VisS f.sc x := by first | exact Or.inl rfl | exact Or.inr (Or.inl rfl) | exact Or.inr (Or.inr rfl)) (hd : (x == ("__debug__" : Str)) = false := by decide)
    (hcd : (x == ("__classdict__" : Str)) = false := by decide) : EX E f (.Name x pos) G (fun k => k = .vd kvs) := ex_k i hN hG (fun z => nomatch z) (fun z => z) (fun _ _ _ _ h => h) hv hd hcd
theorem ex_hand (i : Nat) {x : Str} (hN : f.N[i]? = some x := by rfl) (hG : G[i]? = some .hand := by rfl)
    (hv : VisS f.sc x := by first | exact Or.inl rfl | exact Or.inr (Or.inl rfl) | exact Or.inr (Or.inr rfl)) (hd : (x == ("__debug__" : Str)) = false := by decide)
    (hcd : (x == ("__classdict__" : Str)) = false := by decide) : EX E f (.Name x pos) G (fun k => k = .hand) := ex_k i hN hG (fun z => nomatch z) (fun z => z) (fun _ _ _ _ h => h) hv hd hcd
theorem ex_c {v : V} {d : Dt} (h : ∀ X, PE X e (tC v)) (r : ∀ F, Rp E.K E.C F v d) : ED E f e G d := fun X hX => by
  refine pe_w (h X) ?_
  rintro σ H Q ⟨F, w, t, q⟩
  exact q (.dat d) v F H rfl (Stp.refl w) (r F) Fr.dat
theorem ex_int {i : Int} {j} : ED E f (.Constant (.int i) j pos) G (.int i) := ex_c (v := .int i) (fun X => pe_int) fun F => .int i
theorem ex_bl {i : Bool} {j} : ED E f (.Constant (.bool i) j pos) G (.bl i) := ex_c (v := .bl i) (fun X => pe_bl) fun F => .bl i
theorem ex_non {j} : ED E f (.Constant .none j pos) G .non := ex_c (v := .non) (fun X => pe_non) fun F => .non
theorem ex_str {x : Str} {j} : ED E f (.Constant (.str x) j pos) G (.str x) := ex_c (v := .str x) (fun X => pe_str) fun F => .str x
def GlS (sc : Scope) (x : Str) : Prop := sc.names.lookup x = some .globalImplicit
theorem FmOk.gl {X : Cx} (h : FmOk E f X) {x : Str} (g : GlS f.sc x) : Gl X x := by
  show X.env.scope.names.lookup x = some .globalImplicit
  rw [h.sc]
  exact g
/-- a module's constant -/
theorem ex_g {x : Str} {v : V} {d : Dt} {u : Value} (hm : E.mg x = some u) (r : RelV v u) (rp : ∀ F, Rp E.K E.C F v d) (hg : GlS f.sc x := by rfl) (hd : (x == ("__debug__" : Str)) = false := by decide) : ED E f (.Name x pos) G d := fun X hX => by
  have g := hX.gl hg
  obtain ⟨C, rfl⟩ := hX.en
  refine pe_w (pe_glob (v := v) g hm r hd) ?_
  rintro σ H Q ⟨F, w, t, q⟩
  exact q (.dat d) v F H rfl (Stp.refl w) (rp F) Fr.dat

/-! ### operators -/
def RV (E : En) (hd : Hd) (r : R2) (ka kb : Ki) (R : Ki → Prop) : Prop := ∀ F H x y, Wd hd F H → Ko E hd F H ka x → Ko E hd F H kb y → ∀ Q : VK, (∀ k v F' H', R k → Stp hd F H F' H' → Ko E hd F' H' k v → Fr k v H F' → Q v H') → r x y H Q
theorem op_w {hd : Hd} {ta tb : TE} {r : R2} (ha : ∀ σ H Q, tG E hd G Ra σ H Q → ta σ H Q) (hb : ∀ σ H Q, tG E hd G Rb σ H Q → tb σ H Q) (hr : ∀ ka kb, Ra ka → Rb kb → RV E hd r ka kb R) :
    ∀ σ H Q, tG E hd G R σ H Q → tOp r ta tb σ H Q := by
  rintro σ H Q ⟨F, w, t, q⟩
  refine ha σ H _ ⟨F, w, t, fun ka x F1 H1 ra s1 k1 _ => hb σ H1 _ ⟨F1, s1.wd, t.mono s1, fun kb y F2 H2 rb s2 k2 _ => ?_⟩⟩
  exact hr ka kb ra rb F2 H2 x y s2.wd (k1.mono s2) k2 Q fun k v F' H' rk s3 k3 fr => q k v F' H' rk ((s1.trans s2).trans s3) k3 (fr.back (s1.trans s2))
theorem ex_op {op : Operator} {r : PySem.W.Frag → R2} (ho : ∀ X, FmOk E f X → OpR X (binaryOp op) (r X.K)) (ha : EX E f a G Ra) (hb : EX E f b G Rb) (hr : ∀ ka kb, Ra ka → Rb kb → RV E f.hd (r E.K) ka kb R) : EX E f (.BinOp a op b pos) G R := fun X hX => by
  have h1 := ho X hX
  have h2 := ha X hX
  have h3 := hb X hX
  obtain ⟨C, rfl⟩ := hX.en
  exact pe_w (pe_op h1 h2 h3) (op_w (fun _ _ _ h => h) (fun _ _ _ h => h) hr)
theorem ex_cmp {op : CmpOp} {r : PySem.W.Frag → R2} (ho : ∀ X, FmOk E f X → OpR X (compareOp op) (r X.K)) (ha : EX E f a G Ra) (hb : EX E f b G Rb) (hr : ∀ ka kb, Ra ka → Rb kb → RV E f.hd (r E.K) ka kb R) (hm : behindInMarks op b = false) : EX E f (.Compare a [op] [b] pos) G R := fun X hX => by
  have h1 := ho X hX
  have h2 := ha X hX
  have h3 := hb X hX
  obtain ⟨C, rfl⟩ := hX.en
  exact pe_w (pe_cmpR h1 h2 h3 hm) (op_w (fun _ _ _ h => h) (fun _ _ _ h => h) hr)
def bis (R : Bool → Prop) : Ki → Prop := fun k => ∃ b, R b ∧ k = .dat (.bl b)
theorem tx_cmp {op : CmpOp} {r : PySem.W.Frag → R2} {R : Bool → Prop} (ho : ∀ X, FmOk E f X → OpR X (compareOp op) (r X.K)) (ha : EX E f a G Ra) (hb : EX E f b G Rb) (hr : ∀ ka kb, Ra ka → Rb kb → RV E f.hd (r E.K) ka kb (bis R)) (hm : behindInMarks op b = false) : TX E f (.Compare a [op] [b] pos) G R := fun X hX => by
  have h1 := ho X hX
  have h2 := ha X hX
  have h3 := hb X hX
  obtain ⟨C, rfl⟩ := hX.en
  refine pt_w (pt_cmpR h1 h2 h3 hm) ?_
  rintro σ H Q ⟨F, w, t, q⟩
  refine op_w (R := bis R) (fun _ _ _ h => h) (fun _ _ _ h => h) hr σ H _ ⟨F, w, t, ?_⟩
  rintro k v F' H' ⟨b, rb, rfl⟩ s kv -
  cases (show Rp _ _ F' v (.bl b) from kv)
  exact ⟨b, rfl, q b F' H' rb s⟩
/-- an expression that is True or False as a test -/
theorem tx_val {R : Bool → Prop} (h : EX E f e G (bis R)) (he : ∀ (env : Env) whole, isTrue e env whole = (do let v ← whole; standAt e.pos; holding [v] (truthy v)) := by intro _ _; rfl) : TX E f e G R := fun X hX => by
  refine pt_w (pt_val (h X hX) (he _)) ?_
  rintro σ H Q ⟨F, w, t, q⟩
  refine ⟨F, w, t, ?_⟩
  rintro k v F' H' ⟨b, rb, rfl⟩ s kv -
  cases (show Rp _ _ F' v (.bl b) from kv)
  exact ⟨b, rfl, q b F' H' rb s⟩
abbrev TD (E : En) (f : Fm) (e : Expr) (G : List Ki) (b : Bool) : Prop := TX E f e G (fun b' => b' = b)
theorem td_val {b : Bool} (h : ED E f e G (.bl b)) (he : ∀ (env : Env) whole, isTrue e env whole = (do let v ← whole; standAt e.pos; holding [v] (truthy v)) := by intro _ _; rfl) : TD E f e G b :=
  tx_val (h.weaken fun k q => ⟨b, rfl, q⟩) he
theorem tx_not {R : Bool → Prop} (h : TX E f e G R) : TX E f (.UnaryOp .Not e pos) G (fun b => R (!b)) := fun X hX => by
  refine pt_w (pt_not (h X hX)) ?_
  rintro σ H Q ⟨F, w, t, q⟩
  exact ⟨F, w, t, fun b F' H' r s => q (!b) F' H' (by show R (!!b); rw [Bool.not_not]; exact r) s⟩
theorem td_not {b : Bool} (h : TD E f e G b) : TD E f (.UnaryOp .Not e pos) G (!b) := (tx_not h).weaken fun c q => by
  cases c <;> cases b <;> first | rfl | cases q

/-! and, or as tests -/
def WX (E : En) (f : Fm) (e : Expr) (G : List Ki) (R : Bool → Prop) : Prop := ∀ X, FmOk E f X → PW X e (tGT E f.hd G R)
theorem pw_w {X : Cx} {e : Expr} {t u : TT} (h : PW X e t) (i : ∀ σ H Q, u σ H Q → t σ H Q) : PW X e u := ⟨fun wh pins s σ H Q I q => h.run wh pins s σ H Q I (i σ H Q q)⟩
theorem WX.tx {R : Bool → Prop} (h : WX E f e G R) : TX E f e G R := fun X hX => (h X hX).pt
theorem wx_and1 {R : Bool → Prop} (h : TX E f a G R) : WX E f (.BoolOp .And [a] pos) G R := fun X hX => pw_and1 (h X hX)
theorem wx_or1 {R : Bool → Prop} (h : TX E f a G R) : WX E f (.BoolOp .Or [a] pos) G R := fun X hX => pw_or1 (h X hX)
theorem wx_and {rest : List Expr} {R R1 R2 : Bool → Prop} (h : TX E f a G R1) (h2 : R1 true → WX E f (.BoolOp .And (b :: rest) pos) G R2) (h3 : R1 false → R false) (h4 : R1 true → ∀ c, R2 c → R c) : WX E f (.BoolOp .And (a :: b :: rest) pos) G R := fun X hX => by
  by_cases q : R1 true
  · refine pw_w (pw_and (h X hX) (h2 q X hX)) ?_
    rintro σ H Q ⟨F, w, t, k⟩
    refine ⟨F, w, t, fun d F1 H1 r s => ?_⟩
    cases d with
    | true => exact ⟨F1, s.wd, t.mono s, fun c F' H' rc s2 => k c F' H' (h4 q c rc) (s.trans s2)⟩
    | false => exact k false F1 H1 (h3 r) s
  · refine ⟨fun wh pins s σ H Q I hq => ?_⟩
    obtain ⟨F, w, t, k⟩ := hq
    refine isTrue_and (thn ((h X hX).run pins s σ H (fun c H' => c = false ∧ Q false H') I ⟨F, w, t, fun c F' H' r st => ?_⟩) fun c s1 hc => ?_)
    · cases c with
      | true => exact absurd r q
      | false => exact ⟨rfl, k false F' H' (h3 r) st⟩
    · obtain ⟨H1, I1, hc1, hc2⟩ := hc
      subst hc1
      exact ⟨H1, I1, hc2⟩
theorem wx_or {rest : List Expr} {R R1 R2 : Bool → Prop} (h : TX E f a G R1) (h2 : R1 false → WX E f (.BoolOp .Or (b :: rest) pos) G R2) (h3 : R1 true → R true) (h4 : R1 false → ∀ c, R2 c → R c) : WX E f (.BoolOp .Or (a :: b :: rest) pos) G R := fun X hX => by
  by_cases q : R1 false
  · refine pw_w (pw_or (h X hX) (h2 q X hX)) ?_
    rintro σ H Q ⟨F, w, t, k⟩
    refine ⟨F, w, t, fun d F1 H1 r s => ?_⟩
    cases d with
    | false => exact ⟨F1, s.wd, t.mono s, fun c F' H' rc s2 => k c F' H' (h4 q c rc) (s.trans s2)⟩
    | true => exact k true F1 H1 (h3 r) s
  · refine ⟨fun wh pins s σ H Q I hq => ?_⟩
    obtain ⟨F, w, t, k⟩ := hq
    refine isTrue_or (thn ((h X hX).run pins s σ H (fun c H' => c = true ∧ Q true H') I ⟨F, w, t, fun c F' H' r st => ?_⟩) fun c s1 hc => ?_)
    · cases c with
      | false => exact absurd r q
      | true => exact ⟨rfl, k true F' H' (h3 r) st⟩
    · obtain ⟨H1, I1, hc1, hc2⟩ := hc
      subst hc1
      exact ⟨H1, I1, hc2⟩
abbrev WD (E : En) (f : Fm) (e : Expr) (G : List Ki) (b : Bool) : Prop := WX E f e G (fun b' => b' = b)
/-- both told -/
theorem wd_and {rest : List Expr} {x y : Bool} (h : TD E f a G x) (h2 : x = true → WD E f (.BoolOp .And (b :: rest) pos) G y) : WD E f (.BoolOp .And (a :: b :: rest) pos) G (x && y) :=
  wx_and h (fun q => h2 q.symm) (fun q => by rw [← q]; rfl) fun q c r => by rw [← q, r]; rfl
theorem wd_or {rest : List Expr} {x y : Bool} (h : TD E f a G x) (h2 : x = false → WD E f (.BoolOp .Or (b :: rest) pos) G y) : WD E f (.BoolOp .Or (a :: b :: rest) pos) G (x || y) :=
  wx_or h (fun q => h2 q.symm) (fun q => by rw [← q]; rfl) fun q c r => by rw [← q, r]; rfl
theorem wd_and1 {x : Bool} (h : TD E f a G x) : WD E f (.BoolOp .And [a] pos) G x := wx_and1 h
theorem wd_or1 {x : Bool} (h : TD E f a G x) : WD E f (.BoolOp .Or [a] pos) G x := wx_or1 h
/-! and, or as values, of True and False -/
theorem ed_one {op} {R : Ki → Prop} (h : EX E f a G R) : EX E f (.BoolOp op [a] pos) G R := fun X hX => pe_one (h X hX)
theorem ed_and {rest : List Expr} {x y : Bool} (h : ED E f a G (.bl x)) (h2 : x = true → ED E f (.BoolOp .And (b :: rest) pos) G (.bl y)) : ED E f (.BoolOp .And (a :: b :: rest) pos) G (.bl (x && y)) := fun X hX => by
  cases x with
  | true =>
    refine pe_w (pe_and (h X hX) (h2 rfl X hX)) ?_
    rintro σ H Q ⟨F, w, t, k⟩
    refine ⟨F, w, t, ?_⟩
    rintro k0 v F1 H1 rfl s kv -
    cases (show Rp E.K E.C F1 v (.bl true) from kv)
    exact ⟨true, rfl, F1, s.wd, t.mono s, fun k1 v F' H' r s2 kk fr => k k1 v F' H' r (s.trans s2) kk (fr.back s)⟩
  | false =>
    refine ⟨fun pins s σ H Q I hq => ?_⟩
    obtain ⟨F, w, t, k⟩ := hq
    refine BoolOp_and (thn ((h X hX).run pins s σ H (fun v H' => v = .bl false ∧ Q (.bl false) H') I ⟨F, w, t, ?_⟩) ?_)
    · rintro k0 v F1 H1 rfl s kv -
      cases (show Rp E.K E.C F1 v (.bl false) from kv)
      exact ⟨rfl, k (.dat (.bl false)) _ F1 H1 rfl s (Rp.bl false) Fr.dat⟩
    · rintro v s1 ⟨x, H1, I1, r1, rfl, q1⟩
      cases r1
      exact wpAny_truthy_bool ⟨.bl false, H1, I1, rfl, q1⟩
theorem ed_or {rest : List Expr} {x y : Bool} (h : ED E f a G (.bl x)) (h2 : x = false → ED E f (.BoolOp .Or (b :: rest) pos) G (.bl y)) : ED E f (.BoolOp .Or (a :: b :: rest) pos) G (.bl (x || y)) := fun X hX => by
  cases x with
  | false =>
    refine pe_w (pe_or (h X hX) (h2 rfl X hX)) ?_
    rintro σ H Q ⟨F, w, t, k⟩
    refine ⟨F, w, t, ?_⟩
    rintro k0 v F1 H1 rfl s kv -
    cases (show Rp E.K E.C F1 v (.bl false) from kv)
    exact ⟨false, rfl, F1, s.wd, t.mono s, fun k1 v F' H' r s2 kk fr => k k1 v F' H' r (s.trans s2) kk (fr.back s)⟩
  | true =>
    refine ⟨fun pins s σ H Q I hq => ?_⟩
    obtain ⟨F, w, t, k⟩ := hq
    refine BoolOp_or (thn ((h X hX).run pins s σ H (fun v H' => v = .bl true ∧ Q (.bl true) H') I ⟨F, w, t, ?_⟩) ?_)
    · rintro k0 v F1 H1 rfl s kv -
      cases (show Rp E.K E.C F1 v (.bl true) from kv)
      exact ⟨rfl, k (.dat (.bl true)) _ F1 H1 rfl s (Rp.bl true) Fr.dat⟩
    · rintro v s1 ⟨x, H1, I1, r1, rfl, q1⟩
      cases r1
      exact wpAny_truthy_bool ⟨.bl true, H1, I1, rfl, q1⟩
theorem ed_not {x : Bool} (h : ED E f a G (.bl x)) : ED E f (.UnaryOp .Not a pos) G (.bl (!x)) := fun X hX => by
  refine pe_w (pe_not (h X hX)) ?_
  rintro σ H Q ⟨F, w, t, k⟩
  refine ⟨F, w, t, ?_⟩
  rintro k0 v F1 H1 rfl s kv -
  cases (show Rp E.K E.C F1 v (.bl x) from kv)
  exact ⟨x, rfl, k (.dat (.bl (!x))) _ F1 H1 rfl s (Rp.bl _) Fr.dat⟩
/-- a if t else b -/
theorem ex_if {R : Bool → Prop} {Rv : Ki → Prop} (h : TX E f c G R) (h1 : R true → EX E f a G Rv) (h2 : R false → EX E f b G Rv) : EX E f (.IfExp c a b pos) G Rv := fun X hX => by
  refine ⟨fun pins s σ H Q I hq => ?_⟩
  obtain ⟨F, w, t, k⟩ := hq
  refine wpAny_IfExp (thn ((h X hX).run pins s σ H (fun c H' => R c ∧ tG E f.hd G Rv σ H' Q) I ⟨F, w, t, fun c F' H' r st => ⟨r, F', st.wd, t.mono st, fun k1 v F2 H2 r2 s2 kk fr => k k1 v F2 H2 r2 (st.trans s2) kk (fr.back st)⟩⟩) ?_)
  rintro d s1 ⟨H1, I1, r, q1⟩
  cases d with
  | true => exact (h1 r X hX).run pins s1 σ H1 Q I1 q1
  | false => exact (h2 r X hX).run pins s1 σ H1 Q I1 q1

/-! ### arguments, displays, calls of built-ins -/
theorem ax_nil : AX E f [] G (fun ks => ks = []) := fun X hX => by
  refine pa_w pa_nil ?_
  rintro σ H Q ⟨F, w, t, k⟩
  exact k [] [] F H rfl (Stp.refl w) .nil
theorem ax_cons {Re : Ki → Prop} {Rr : List Ki → Prop} (h : EX E f e G Re) (h2 : AX E f es G Rr) (hs : ∀ env : Env, starEach (e :: es) env = (false, eval e env) :: starEach es env := by intro _; rfl) :
    AX E f (e :: es) G (fun ks => ∃ k r, ks = k :: r ∧ Re k ∧ Rr r) := fun X hX => by
  refine pa_w (pa_cons (h X hX) (h2 X hX) (hs _)) ?_
  rintro σ H Q ⟨F, w, t, k⟩
  refine ⟨F, w, t, fun k1 v F1 H1 r1 s1 q1 _ => ⟨F1, s1.wd, t.mono s1, fun ks vs F2 H2 r2 s2 q2 => ?_⟩⟩
  exact k (k1 :: ks) (v :: vs) F2 H2 ⟨k1, ks, rfl, r1, r2⟩ (s1.trans s2) (.cons (q1.mono s2) q2)
abbrev AD (E : En) (f : Fm) (es : List Expr) (G : List Ki) (ks : List Ki) : Prop := AX E f es G (fun ks' => ks' = ks)
theorem AX.weaken {R R' : List Ki → Prop} (h : AX E f es G R) (i : ∀ k, R k → R' k) : AX E f es G R' := fun X hX =>
  pa_w (h X hX) fun σ H Q ⟨F, w, t, q⟩ => ⟨F, w, t, fun k v F' H' r => q k v F' H' (i k r)⟩
theorem ad_nil : AD E f [] G [] := ax_nil
theorem ad_k {k : Ki} {ks : List Ki} (h : EX E f e G (fun k' => k' = k)) (h2 : AD E f es G ks) (hs : ∀ env : Env, starEach (e :: es) env = (false, eval e env) :: starEach es env := by intro _; rfl) : AD E f (e :: es) G (k :: ks) :=
  (ax_cons h h2 hs).weaken fun ks' ⟨k1, r, e1, e2, e3⟩ => by rw [e1, e2, e3]
theorem ad_cons {d : Dt} {ks : List Ki} (h : ED E f e G d) (h2 : AD E f es G ks) (hs : ∀ env : Env, starEach (e :: es) env = (false, eval e env) :: starEach es env := by intro _; rfl) : AD E f (e :: es) G (.dat d :: ks) := ad_k h h2 hs
theorem KsOk.dts {hd : Hd} {F H : Hp} : ∀ {ds : List Dt} {vs : List V}, KsOk E.K E.C hd F H (ds.map Ki.dat) vs → RpL E.K E.C F vs ds
  | [], _, .nil => .nil
  | _ :: _, _, .cons h t => .cons h (KsOk.dts t)
/-- (a, b, ..), [a, b, ..] -/
theorem ed_tup {ds : List Dt} {x1} (h : AD E f es G (ds.map Ki.dat)) (hl : ds.length ≤ 1000000 := by exact Nat.le_of_ble_eq_true rfl) : ED E f (.Tuple es x1 pos) G (.tup ds) := fun X hX => by
  refine pe_w (pe_tup (h X hX)) ?_
  rintro σ H Q ⟨F, w, t, k⟩
  refine ⟨F, w, t, ?_⟩
  rintro ks vs F1 H1 rfl s1 q1
  have r := KsOk.dts q1
  refine ⟨by rw [r.length]; exact Nat.le_trans hl (by decide), fun p hp => ?_⟩
  have s2 := Stp.new (o := .tup vs) s1.wd hp
  exact k (.dat (.tup ds)) (.ref p) _ _ rfl (s1.trans s2) (Rp.tup upd_same (r.mono s2.e.1)) Fr.dat
theorem ed_lst {ds : List Dt} (h : AD E f es G (ds.map Ki.dat)) (hl : ds.length ≤ 1000000 := by exact Nat.le_of_ble_eq_true rfl) : ED E f (.List es pos) G (.lst ds) := fun X hX => by
  refine pe_w (pe_lst (h X hX)) ?_
  rintro σ H Q ⟨F, w, t, k⟩
  refine ⟨F, w, t, ?_⟩
  rintro ks vs F1 H1 rfl s1 q1
  have r := KsOk.dts q1
  refine ⟨by rw [r.length]; exact Nat.le_trans hl (by decide), fun p hp => ?_⟩
  have s2 := Stp.new (o := .lst vs) s1.wd hp
  exact k (.dat (.lst ds)) (.ref p) _ _ rfl (s1.trans s2) (Rp.lst upd_same (r.mono s2.e.1)) Fr.dat
/-- a new list that will be changed -/
theorem eo_lst {ds : List Dt} (h : AD E f es G (ds.map Ki.dat)) (hl : ds.length ≤ 1000000 := by exact Nat.le_of_ble_eq_true rfl) : EX E f (.List es pos) G (fun k => k = .ol ds) := fun X hX => by
  refine pe_w (pe_lst (h X hX)) ?_
  rintro σ H Q ⟨F, w, t, k⟩
  refine ⟨F, w, t, ?_⟩
  rintro ks vs F1 H1 rfl s1 q1
  have r := KsOk.dts q1
  refine ⟨by rw [r.length]; exact Nat.le_trans hl (by decide), fun p hp => ?_⟩
  have s2 := Stp.own (o := .lst vs) s1.wd hp
  exact k (.ol ds) (.ref p) _ _ rfl (s1.trans s2) ⟨p, vs, rfl, upd_same, r, s1.wd.ne hp⟩ (Fr.back s1 fun _ a e => by
    cases e
    exact ⟨hp, s1.wd.ex.none hp⟩)
def RC (E : En) (hd : Hd) (r : List V → Hp → VK → Prop) (ks : List Ki) (R : Ki → Prop) : Prop := ∀ F H vs, Wd hd F H → KsOk E.K E.C hd F H ks vs → ∀ Q : VK, (∀ k v F' H', R k → Stp hd F H F' H' → Ko E hd F' H' k v → Fr k v H F' → Q v H') → r vs H Q
theorem cb_w {hd : Hd} {r : List V → Hp → VK → Prop} {Rs : List Ki → Prop} (hr : ∀ ks, Rs ks → RC E hd r ks R) : ∀ σ H Q, tG E hd G R σ H Q → tCB r (tGA E hd G Rs) σ H Q := by
  rintro σ H Q ⟨F, w, t, k⟩
  exact ⟨F, w, t, fun ks vs F1 H1 rs s1 q1 => hr ks rs F1 H1 vs s1.wd q1 Q fun k1 v F' H' rk s2 kk fr => k k1 v F' H' rk (s1.trans s2) kk (fr.back s1)⟩
theorem ex_callB {x : Str} {id : String} {r : PySem.W.Frag → List V → Hp → VK → Prop} {Rs : List Ki → Prop} (hc : ∀ X : Cx, X.calm = true → Room f.k X.A → CallR X (.builtin id) (r X.K)) (hm : E.mg x = none) (ha : AX E f (e :: es) G Rs) (hr : ∀ ks, Rs ks → RC E f.hd (r E.K) ks R)
    (hv : bootBuiltins x = some (.builtin id) := by decide +kernel) (hg : GlS f.sc x := by rfl) (hn : x ≠ "__name__" := by decide) (hdb : (x == ("__debug__" : Str)) = false := by decide)
    (he : ∀ env : Env, starEach (e :: es) env = (false, eval e env) :: starEach es env := by intro _; rfl) (hpl : ∀ env : Env, (backTo pos (starEach es env)).any (·.1) = false := by intro _; rfl) : EX E f (.Call (.Name x p) (e :: es) [] pos) G R := fun X hX => by
  have g := hX.gl hg
  have hc' := hc X hX.calm hX.room
  have ha' := ha X hX
  obtain ⟨C, rfl⟩ := hX.en
  exact pe_w (pe_callB hc' g hm hv ha' hn hdb (he _) (hpl _)) (cb_w hr)
theorem ex_callTy {x : Str} {T : String} {r : PySem.W.Frag → List V → Hp → VK → Prop} {Rs : List Ki → Prop} (hc : ∀ X : Cx, X.calm = true → Room f.k X.A → CallR X (.type T) (r X.K)) (hm : E.mg x = none) (ha : AX E f (e :: es) G Rs) (hr : ∀ ks, Rs ks → RC E f.hd (r E.K) ks R)
    (hv : bootBuiltins x = some (.type T) := by decide +kernel) (hg : GlS f.sc x := by rfl) (hn : x ≠ "__name__" := by decide) (hdb : (x == ("__debug__" : Str)) = false := by decide)
    (he : ∀ env : Env, starEach (e :: es) env = (false, eval e env) :: starEach es env := by intro _; rfl) (hpl : ∀ env : Env, (backTo pos (starEach es env)).any (·.1) = false := by intro _; rfl) : EX E f (.Call (.Name x p) (e :: es) [] pos) G R := fun X hX => by
  have g := hX.gl hg
  have hc' := hc X hX.calm hX.room
  have ha' := ha X hX
  obtain ⟨C, rfl⟩ := hX.en
  exact pe_w (pe_callTy hc' g hm hv ha' hn hdb (he _) (hpl _)) (cb_w hr)

/-! ### promises, calls of own defs -/
/-- for arguments ks with R ks P: a result with P -/
def spG (K : PySem.W.Frag) (C : Addr) (R : List Ki → (Ki → Prop) → Prop) : Sp := fun vs H Q _ => ∃ (hd : Hd) (F : Hp) (ks : List Ki) (P : Ki → Prop), R ks P ∧ Wd hd F H ∧ KsOk K C hd F H ks vs ∧ ∀ k v F' H', P k → Stp hd F H F' H' → KiOk K C hd F' H' k v → Fr k v H F' → Q v H'
structure Cl (E : En) (k : Nat) (x : Str) (R : List Ki → (Ki → Prop) → Prop) : Prop where
  ex : ∃ (f : Addr) (fd : FuncData) (ps : List Str), FnOk E.P E.w E.K E.mg E.base CX0 k f fd ps (spG E.K E.C R) ∧ E.mg x = some (.ref f) ∧ PySem.W.keepIn E.K (.ref f) = true ∧ Binds E.K fd ps []
theorem ex_call {x : Str} {k : Nat} {S : List Ki → (Ki → Prop) → Prop} {Rs : List Ki → Prop} (c : Cl E k x S) (ha : AX E f (e :: es) G Rs) (hr : ∀ ks, Rs ks → S ks R) (hk : Nat.ble k f.k = true := by rfl) (hg : GlS f.sc x := by rfl) (hdb : (x == ("__debug__" : Str)) = false := by decide)
    (he : ∀ env : Env, starEach (e :: es) env = (false, eval e env) :: starEach es env := by intro _; rfl) (hpl : ∀ env : Env, (backTo pos (starEach es env)).any (·.1) = false := by intro _; rfl) : EX E f (.Call (.Name x p) (e :: es) [] pos) G R := fun X hX => by
  have g := hX.gl hg
  have ha' := ha X hX
  obtain ⟨C, rfl⟩ := hX.en
  obtain ⟨fa, fd, ps, F, hm, kp, b⟩ := c.ex
  refine pe_w (pe_call (dvs := []) F (hX.room.mono (Nat.le_of_ble_eq_true hk)) g hm kp b .nil pass0 ha' hdb (he _) (hpl _)) ?_
  rintro σ H Q ⟨F0, w, t, q⟩
  refine ⟨F0, w, t, fun ks vs F1 H1 rs s1 q1 => ?_⟩
  show spG X.K C S (vs ++ []) H1 Q E0
  rw [List.append_nil]
  exact ⟨f.hd, F1, ks, R, hr ks rs, s1.wd, q1, fun k v F' H' rk s2 kk fr => q k v F' H' rk (s1.trans s2) kk (fr.back s1)⟩
theorem ed_call {x : Str} {k : Nat} {S : List Ki → (Ki → Prop) → Prop} {ks : List Ki} {d : Dt} (c : Cl E k x S) (ha : AD E f (e :: es) G ks) (hr : S ks (one d)) (hk : Nat.ble k f.k = true := by rfl) (hg : GlS f.sc x := by rfl) (hdb : (x == ("__debug__" : Str)) = false := by decide)
    (he : ∀ env : Env, starEach (e :: es) env = (false, eval e env) :: starEach es env := by intro _; rfl) (hpl : ∀ env : Env, (backTo pos (starEach es env)).any (·.1) = false := by intro _; rfl) : ED E f (.Call (.Name x p) (e :: es) [] pos) G d :=
  ex_call c ha (fun ks' q => by rw [q]; exact hr) hk hg hdb he hpl
end A8
set_option Elab.async false
set_option linter.all false
set_option maxRecDepth 100000
set_option maxHeartbeats 4000000
namespace A8
open PySem PySem.Spec PyProof.Rows L2

variable {E : En} {f : Fm} {G : List Ki} {e a b c : Expr} {es : List Expr} {pos p pos' : Pos} {R Ra Rb : Ki → Prop}

/-! ### targets -/
inductive Tgt where
  | one (j : Nat) | two (i j : Nat)
def Dt.at (d : Dt) (i : Nat) : Dt := match d with
  | .tup l => l.getD i .non
  | _ => .non
def Tgt.set : Tgt → Dt → List Ki → List Ki
  | .one j, d, G => G.set j (.dat d)
  | .two i j, d, G => (G.set i (.dat (d.at 0))).set j (.dat (d.at 1))
def Tgt.fits : Tgt → Dt → Prop
  | .one _, _ => True
  | .two _ _, d => ∃ x y, d = .tup [x, y]
def Tgt.slots : Tgt → List Nat
  | .one j => [j]
  | .two i j => [i, j]
def Tgt.tg (K : PySem.W.Frag) : Tgt → TG
  | .one j => gName j
  | .two i j => gTup K 2 (gCons (gName i) (gCons (gName j) gNil))
def GX (E : En) (f : Fm) (tg : Expr) (t : Tgt) : Prop := ∀ X, FmOk E f X → PG X tg (t.tg E.K)
def LocS (sc : Scope) (x : Str) : Prop := sc.names.lookup x = some .local ∨ sc.names.lookup x = some .cell
theorem pg_nameS {X : Cx} (hX : FmOk E f X) {j : Nat} {x : Str} (hN : f.N[j]? = some x) (hl : LocS f.sc x) (hf : f.fn x = true ∨ f.sc.names.lookup x = some .local) : PG X (.Name x pos) (gName j) :=
  pg_name (by rw [hX.N]; exact hX.nd) (by rw [hX.N]; exact hN) (by show LocS X.env.scope x; rw [hX.sc]; exact hl) (by rw [hX.fn, hX.sc]; exact hf)
theorem gx_one (j : Nat) {x : Str} (hN : f.N[j]? = some x := by rfl) (hl : LocS f.sc x := by first | exact Or.inl rfl | exact Or.inr rfl) (hf : f.fn x = true ∨ f.sc.names.lookup x = some .local := by first | exact .inl rfl | exact .inr rfl) : GX E f (.Name x pos) (.one j) :=
  fun X hX => pg_nameS hX hN hl hf
theorem gx_two (i j : Nat) {x y : Str} {kk} (hN : f.N[i]? = some x := by rfl) (hN2 : f.N[j]? = some y := by rfl) (hl : LocS f.sc x := by first | exact Or.inl rfl | exact Or.inr rfl) (hl2 : LocS f.sc y := by first | exact Or.inl rfl | exact Or.inr rfl)
    (hf : f.fn x = true ∨ f.sc.names.lookup x = some .local := by first | exact .inl rfl | exact .inr rfl) (hf2 : f.fn y = true ∨ f.sc.names.lookup y = some .local := by first | exact .inl rfl | exact .inr rfl) :
    GX E f (.Tuple [.Name x pos, .Name y pos'] kk p) (.two i j) := fun X hX => by
  have h1 := pg_nameS hX hN hl hf (pos := pos)
  have h2 := pg_nameS hX hN2 hl2 hf2 (pos := pos')
  have hc := hX.calm
  obtain ⟨C, rfl⟩ := hX.en
  exact pg_tup hc (pgs_cons h1 (pgs_cons h2 pgs_nil))
theorem Tgt.run {hd : Hd} {F H : Hp} {σ : L2.St} {d : Dt} {v : V} {Q : L2.St → Hp → Prop} (t : Tgt) (w : Wd hd F H) (ty : Ty E.K E.C hd F H G σ) (h : Rp E.K E.C F v d) (ft : t.fits d)
    (q : ∀ σ', Ty E.K E.C hd F H (t.set d G) σ' → (∀ (σ0 : L2.St) (vs : List Nat), (∀ j ∈ t.slots, j ∈ vs) → σ = wipe σ0 vs → wipe σ' vs = wipe σ0 vs) → Q σ' H) : t.tg E.K v σ H Q := by
  cases t with
  | one j =>
    refine q _ (ty.set j (k := .dat d) h) fun σ0 vs hs e => ?_
    rw [e]
    exact wipe_set (hs j (by simp [Tgt.slots]))
  | two i j =>
    obtain ⟨x, y, rfl⟩ := ft
    cases h with
    | tup h1 h2 =>
      rename_i a xs
      cases h2 with
      | cons r1 r2 =>
        cases r2 with
        | cons r2 r3 =>
          cases r3
          refine ⟨_, _, rfl, SqT.of (w.ex _ _ h1), rfl, _, _, rfl, _, _, rfl, rfl, ?_⟩
          refine q _ ((ty.set i (k := .dat x) r1).set j (k := .dat y) r2) fun σ0 vs hs e => ?_
          rw [e]
          exact wipe_set2 (hs i (by simp [Tgt.slots])) (hs j (by simp [Tgt.slots]))

/-! ### blocks -/
def Fm.blk (f : Fm) (scope : Scope) : Fm := { f with sc := relS scope f.sc, fn := fun x => scope.names.lookup x == some .cell }
theorem FmOk.blk {X : Cx} (h : FmOk E f X) (scope : Scope) (s : Shared) (H : Hp) (C : Addr) (cl : List (Str × Addr)) (fp : List Addr) : FmOk E (f.blk scope) (X.blk s H scope (compEnvC scope cl C X.env) fp) := by
  refine ⟨h.en, h.calm, h.N, ?_, rfl, h.room, rfl, h.nd⟩
  show relS scope X.env.scope = relS scope f.sc
  rw [h.sc]
theorem pe_un' {ι : Type} {X : Cx} {c : ι → Prop} {t : ι → TE} (h : ∀ i, c i → PE X e (t i)) : PE X e (fun σ H Q => ∃ i, c i ∧ t i σ H Q) :=
  ⟨fun pins s σ H Q I ⟨i, ci, q⟩ => (h i ci).run pins s σ H Q I q⟩
theorem pts_un' {ι : Type} {X : Cx} {ifs : List Expr} {c : ι → Prop} {t : ι → TT} (h : ∀ i, c i → PTs X ifs (t i)) : PTs X ifs (fun σ H Q => ∃ i, c i ∧ t i σ H Q) :=
  ⟨fun pins s σ H Q I ⟨i, ci, q⟩ => (h i ci).run pins s σ H Q I q⟩
theorem pi_un' {ι : Type} {X : Cx} {tg : Expr} {c : ι → Prop} {t : ι → TI} (h : ∀ i, c i → PI X tg e (t i)) : PI X tg e (fun σ H Q => ∃ i, c i ∧ t i σ H Q) :=
  ⟨fun pins s σ H Q I ⟨i, ci, q⟩ => (h i ci).run pins s σ H Q I q⟩
theorem pss_un' {ι : Type} {X : Cx} {sts : List Stmt} {c : ι → Prop} {t : ι → TS} (h : ∀ i, c i → PSs X sts (t i)) : PSs X sts (fun D σ H => ∃ i, c i ∧ t i D σ H) :=
  ⟨fun pins s σ H Q I ⟨i, ci, q⟩ => (h i ci).run pins s σ H Q I q⟩
def TsX (E : En) (f : Fm) (ifs : List Expr) (G : List Ki) (R : Bool → Prop) : Prop := ∀ X, FmOk E f X → PTs X ifs (tGT E f.hd G R)
theorem tsx_nil : TsX E f [] G (fun b => b = true) := fun X hX => ⟨fun pins s σ H Q I h => by
  obtain ⟨F, w, t, q⟩ := h
  exact pts_nil.run pins s σ H Q I (q true F H rfl (Stp.refl w))⟩
theorem tsx_one {R : Bool → Prop} (h : TX E f c G R) : TsX E f [c] G R := fun X hX => pts_one (h X hX)
/-- what a comprehension makes: which are kept, what of them -/
inductive LcOut {α : Type} (Rt : α → Bool → Prop) (Re : α → Dt → Prop) : List α → List Dt → Prop where
  | nil : LcOut Rt Re [] []
  | no {x : α} {l : List α} {ds : List Dt} : LcOut Rt Re l ds → Rt x false → LcOut Rt Re (l ++ [x]) ds
  | yes {x : α} {l : List α} {ds : List Dt} {d : Dt} : LcOut Rt Re l ds → Rt x true → Re x d → LcOut Rt Re (l ++ [x]) (ds ++ [d])
theorem LcOut.len {α : Type} {Rt : α → Bool → Prop} {Re : α → Dt → Prop} {l : List α} {ds : List Dt} (h : LcOut Rt Re l ds) : ds.length ≤ l.length := by
  induction h with
  | nil => exact Nat.le_refl _
  | no _ _ ih => rw [List.length_append]; omega
  | yes _ _ _ ih => rw [List.length_append, List.length_append]; exact Nat.add_le_add_right ih 1
theorem LcOut.det {α : Type} {p : α → Bool} {g : α → Dt} {Rt : α → Bool → Prop} {Re : α → Dt → Prop} {l : List α} {ds : List Dt} (h : LcOut Rt Re l ds) (h1 : ∀ x ∈ l, ∀ b, Rt x b → b = p x) (h2 : ∀ x ∈ l, ∀ d, Re x d → d = g x) : ds = (l.filter p).map g := by
  induction h with
  | nil => rfl
  | @no x l ds _ r ih =>
    rw [List.filter_append, List.map_append, ← ih (fun y hy => h1 y (List.mem_append_left _ hy)) (fun y hy => h2 y (List.mem_append_left _ hy))]
    have e : p x = false := (h1 x (by simp) _ r).symm
    simp [e]
  | @yes x l ds d _ r r2 ih =>
    rw [List.filter_append, List.map_append, ← ih (fun y hy => h1 y (List.mem_append_left _ hy)) (fun y hy => h2 y (List.mem_append_left _ hy))]
    have e : p x = true := (h1 x (by simp) _ r).symm
    have e2 : d = g x := h2 x (by simp) _ r2
    simp [e, e2]
theorem LcOut.sub {α : Type} {Rt : α → Bool → Prop} {g : α → Dt} {l : List α} {ds : List Dt} (h : LcOut Rt (fun x d => d = g x) l ds) : ∃ l' : List α, l'.Sublist l ∧ ds = l'.map g := by
  induction h with
  | nil => exact ⟨[], .slnil, rfl⟩
  | no _ _ ih =>
    obtain ⟨l', h1, h2⟩ := ih
    exact ⟨l', h1.trans (List.sublist_append_left _ _), h2⟩
  | @yes x l ds d _ _ r2 ih =>
    obtain ⟨l', h1, h2⟩ := ih
    exact ⟨l' ++ [x], h1.append (List.Sublist.refl [x]), by rw [List.map_append, h2, r2]; rfl⟩
theorem LcOut.all {α : Type} {Re : α → Dt → Prop} {l : List α} {ds : List Dt} (h : LcOut (fun _ b => b = true) Re l ds) : ds.length = l.length ∧ ∀ (i : Nat) x, l[i]? = some x → ∃ d, ds[i]? = some d ∧ Re x d := by
  induction h with
  | nil => exact ⟨rfl, fun i x e => by simp at e⟩
  | no _ r _ => cases r
  | @yes x l ds d _ _ r2 ih =>
    obtain ⟨i1, i2⟩ := ih
    refine ⟨by rw [List.length_append, List.length_append, i1]; rfl, fun i y e => ?_⟩
    by_cases q : i < l.length
    · rw [List.getElem?_append_left q] at e
      rw [List.getElem?_append_left (by omega)]
      exact i2 i y e
    · rw [List.getElem?_append_right (by omega)] at e
      rw [List.getElem?_append_right (by omega), i1]
      cases z : i - l.length with
      | zero =>
        rw [z] at e
        cases e
        exact ⟨d, rfl, r2⟩
      | succ n =>
        rw [z] at e
        simp at e
/-- the state of a comprehension's loop -/
def LcW {α : Type} (E : En) (hd : Hd) (F1 H1 : Hp) (D : Addr) (Rt : α → Bool → Prop) (Re : α → Dt → Prop) (l : List α) (i : Nat) (H : Hp) : Prop :=
  ∃ F acc ds, Stp hd F1 H1 F H ∧ F D = none ∧ H D = some (.lst acc) ∧ RpL E.K E.C F acc ds ∧ LcOut Rt Re (l.take i) ds
theorem lc_red {α : Type} {hd : Hd} {t : Tgt} {wi : TI} {vs : List Nat} {eD : α → Dt} {RL : List α → Prop} {Rt : α → Bool → Prop} {Re : α → Dt → Prop} {σ : L2.St} {H : Hp} {Q : VK} {Gb : α → List Ki}
    (hsl : ∀ j ∈ t.slots, j ∈ vs) (hf : ∀ l, RL l → ∀ x ∈ l, t.fits (eD x)) (hGb : ∀ x, Gb x = t.set (eD x) (wipeK G vs)) (hlen : ∀ l, RL l → l.length ≤ 1000000)
    {F : Hp} (w : Wd hd F H) (ty : Ty E.K E.C hd F H G σ)
    (hwi : ∀ R : It → Hp → Prop, (∀ J ds F' H', (∃ l, RL l ∧ ds = l.map eD) → Stp hd F H F' H' → ItD E hd J F' ds → R J H') → wi σ H R)
    (q : ∀ l ds D F' H' acc, RL l → LcOut Rt Re l ds → Stp hd F H F' H' → H D = none → F' D = none → H' D = some (.lst acc) → RpL E.K E.C F' acc ds → Q (.ref D) H') :
    tLc wi (t.tg E.K) (fun σ H Q => ∃ x : α, (∃ l, RL l ∧ x ∈ l) ∧ tGT E hd (Gb x) (Rt x) σ H Q) (fun σ H Q => ∃ x : α, ((∃ l, RL l ∧ x ∈ l) ∧ Rt x true) ∧ tG E hd (Gb x) (fun k => ∃ d, Re x d ∧ k = .dat d) σ H Q) vs σ H Q := by
  refine hwi _ fun J ds F1 H1 hds s1 it D hD => ?_
  obtain ⟨l, rl, rfl⟩ := hds
  have nD : ∀ p c, hd = some (p, c) → D ≠ p := s1.wd.ne hD
  refine ⟨fun i m H' => m = l.length - i ∧ i ≤ l.length ∧ LcW E hd F1 H1 D Rt Re l i H', ⟨l.length, by omega, Nat.zero_le _, F1, [], [], Stp.own s1.wd hD, s1.wd.ex.none hD, upd_same, .nil, .nil⟩, ?_⟩
  rintro i m H' ⟨rfl, hi, F2, acc, ds, s2, hF, hDD, rp, out⟩
  have it2 := it i F2 H' s2.e.1 s2.wd
  by_cases hlt : i < l.length
  · have hx : l[i]? = some l[i] := List.getElem?_eq_getElem hlt
    have hmem : l[i] ∈ l := List.getElem_mem hlt
    obtain ⟨go, yld⟩ := it2.1 (eD l[i]) (by rw [List.getElem?_map, hx]; rfl)
    refine .inr ⟨go, fun H' => LcW E hd F1 H1 D Rt Re l (i + 1) H', fun H' h => ⟨l.length - (i + 1), by omega, rfl, hlt, h⟩, fun x H3 y => ?_⟩
    obtain ⟨F3, s3, rx⟩ := yld x H3 y
    have s13 := s2.trans s3
    have d3 : H3 D = some (.lst acc) := s3.b D _ nD hDD
    have f3 : F3 D = none := s3.lack hDD hF
    refine t.run s3.wd ((ty.mono (s1.trans s13)).wipe vs) rx (hf l rl _ hmem) fun σ' ty' hw => ⟨hw σ vs hsl rfl, ?_⟩
    rw [← hGb] at ty'
    refine ⟨l[i], ⟨l, rl, hmem⟩, F3, s3.wd, ty', fun b F4 H4 rb s4 => ?_⟩
    have d4 : H4 D = some (.lst acc) := s4.b D _ nD d3
    have f4 : F4 D = none := s4.lack d3 f3
    cases b with
    | false =>
      refine iteF ?_
      refine ⟨F4, acc, ds, s13.trans s4, f4, d4, rp.mono (s3.trans s4).e.1, ?_⟩
      rw [List.take_add_one, hx]
      exact .no out rb
    | true =>
      refine iteT ?_
      refine ⟨l[i], ⟨⟨l, rl, hmem⟩, rb⟩, F4, s4.wd, ty'.mono s4, ?_⟩
      rintro k v F5 H5 ⟨d, rd, rfl⟩ s5 kv -
      have d5 : H5 D = some (.lst acc) := s5.b D _ nD d4
      have f5 : F5 D = none := s5.lack d4 f4
      have hz : acc.length < sizeLine := by
        have e1 := rp.length
        have e2 := out.len
        rw [List.length_take] at e2
        have e3 := hlen l rl
        rw [sizeLine_eq]
        omega
      refine ⟨acc, d5, hz, F5, acc ++ [v], ds ++ [d], (((s13.trans s4).trans s5).mut hD f5 nD), f5, upd_same, (rp.mono ((s3.trans s4).trans s5).e.1).append (.cons kv .nil), ?_⟩
      rw [List.take_add_one, hx]
      exact .yes out rb rd
  · have e : i = l.length := by omega
    subst e
    rw [List.take_length] at out
    refine .inl ⟨it2.2 (by rw [List.length_map]; exact Nat.le_refl _), ?_⟩
    have hD0 : H D = none := by
      cases z : H D with
      | none => rfl
      | some o =>
        obtain ⟨o', h'⟩ := s1.tr z
        rw [hD] at h'
        cases h'
    exact q l ds D F2 H' acc rl out (s1.trans s2) hD0 hF hDD rp
section
variable {elt tg iter : Expr} {ifs : List Expr} {scope : Scope} {α : Type}
theorem lc_pe {X : Cx} (hX : FmOk E f X) (t : Tgt) (own : List (Str × Nat)) (RL : List α → Prop) (eD : α → Dt) (Rt : α → Bool → Prop) (Re : α → Dt → Prop) (hi : IX E f tg iter G (fun ds => ∃ l, RL l ∧ ds = l.map eD)) (ok : blkC f.N f.sc scope own = true)
    (hg : GX E (f.blk scope) tg t) (ht : ∀ l, RL l → ∀ x ∈ l, TsX E (f.blk scope) ifs (t.set (eD x) (wipeK G (own.map (·.2)))) (Rt x))
    (he : ∀ l, RL l → ∀ x ∈ l, Rt x true → EX E (f.blk scope) elt (t.set (eD x) (wipeK G (own.map (·.2)))) (fun k => ∃ d, Re x d ∧ k = .dat d)) (hs : ∀ (env : Env) x, foldedSetIterable iter env x = pure x) :
    PE X (.ListComp elt [⟨tg, iter, ifs, 0⟩] scope pos) (tLc (tGI E f.hd G (fun ds => ∃ l, RL l ∧ ds = l.map eD)) (t.tg E.K) (fun σ H Q => ∃ x : α, (∃ l, RL l ∧ x ∈ l) ∧ tGT E f.hd (t.set (eD x) (wipeK G (own.map (·.2)))) (Rt x) σ H Q)
      (fun σ H Q => ∃ x : α, ((∃ l, RL l ∧ x ∈ l) ∧ Rt x true) ∧ tG E f.hd (t.set (eD x) (wipeK G (own.map (·.2)))) (fun k => ∃ d, Re x d ∧ k = .dat d) σ H Q) (own.map (·.2))) := by
  refine pe_lc (own := own) hX.calm (by rw [hX.N]; exact hX.nd) (hi X hX) (blkOk_by (by rw [hX.N, hX.sc]; exact ok)) (fun s H C cl fp => ?_) (fun s H C cl fp => ?_) (fun s H C cl fp => ?_) (hs _)
  · exact hg _ (hX.blk scope s H C cl fp)
  · exact pts_un' fun x ⟨l, rl, hx⟩ => ht l rl x hx _ (hX.blk scope s H C cl fp)
  · exact pe_un' fun x ⟨⟨l, rl, hx⟩, rb⟩ => he l rl x hx rb _ (hX.blk scope s H C cl fp)
/-- [elt for tg in iter if ..]: the list made is told as known -/
theorem ex_lc (t : Tgt) (own : List (Str × Nat)) (RL : List α → Prop) (eD : α → Dt) (Rt : α → Bool → Prop) (Re : α → Dt → Prop) (hi : IX E f tg iter G (fun ds => ∃ l, RL l ∧ ds = l.map eD)) (hg : GX E (f.blk scope) tg t)
    (ht : ∀ l, RL l → ∀ x ∈ l, TsX E (f.blk scope) ifs (t.set (eD x) (wipeK G (own.map (·.2)))) (Rt x))
    (he : ∀ l, RL l → ∀ x ∈ l, Rt x true → EX E (f.blk scope) elt (t.set (eD x) (wipeK G (own.map (·.2)))) (fun k => ∃ d, Re x d ∧ k = .dat d))
    (hf : ∀ l, RL l → ∀ x ∈ l, t.fits (eD x) := by exact fun _ _ _ _ => trivial) (hlen : ∀ l, RL l → l.length ≤ 1000000) (hsl : ∀ j ∈ t.slots, j ∈ own.map (·.2) := by decide) (ok : blkC f.N f.sc scope own = true := by dsimp only [Fm.blk]; decide +kernel) (hs : ∀ (env : Env) x, foldedSetIterable iter env x = pure x := by intro _ _; rfl) :
    EX E f (.ListComp elt [⟨tg, iter, ifs, 0⟩] scope pos) G (fun k => ∃ l ds, RL l ∧ LcOut Rt Re l ds ∧ k = .dat (.lst ds)) := fun X hX => by
  refine pe_w (lc_pe hX t own RL eD Rt Re hi ok hg ht he hs) ?_
  rintro σ H Q ⟨F, w, ty, q⟩
  refine lc_red hsl hf (fun _ => rfl) hlen w ty (fun R h => ⟨F, w, ty, h⟩) fun l ds D F' H' acc rl out s hD hF hDD rp => ?_
  have s' := s.freeze hD hF hDD (w.ne hD)
  exact q _ _ _ _ ⟨l, ds, rl, out, rfl⟩ s' (Rp.lst upd_same (rp.mono (Ex.new hF))) Fr.dat
/-- .. as an own list, which may be changed -/
theorem eo_lc (t : Tgt) (own : List (Str × Nat)) (RL : List α → Prop) (eD : α → Dt) (Rt : α → Bool → Prop) (Re : α → Dt → Prop) (hi : IX E f tg iter G (fun ds => ∃ l, RL l ∧ ds = l.map eD)) (hg : GX E (f.blk scope) tg t)
    (ht : ∀ l, RL l → ∀ x ∈ l, TsX E (f.blk scope) ifs (t.set (eD x) (wipeK G (own.map (·.2)))) (Rt x))
    (he : ∀ l, RL l → ∀ x ∈ l, Rt x true → EX E (f.blk scope) elt (t.set (eD x) (wipeK G (own.map (·.2)))) (fun k => ∃ d, Re x d ∧ k = .dat d))
    (hf : ∀ l, RL l → ∀ x ∈ l, t.fits (eD x) := by exact fun _ _ _ _ => trivial) (hlen : ∀ l, RL l → l.length ≤ 1000000) (hsl : ∀ j ∈ t.slots, j ∈ own.map (·.2) := by decide) (ok : blkC f.N f.sc scope own = true := by dsimp only [Fm.blk]; decide +kernel) (hs : ∀ (env : Env) x, foldedSetIterable iter env x = pure x := by intro _ _; rfl) :
    EX E f (.ListComp elt [⟨tg, iter, ifs, 0⟩] scope pos) G (fun k => ∃ l ds, RL l ∧ LcOut Rt Re l ds ∧ k = .ol ds) := fun X hX => by
  refine pe_w (lc_pe hX t own RL eD Rt Re hi ok hg ht he hs) ?_
  rintro σ H Q ⟨F, w, ty, q⟩
  refine lc_red hsl hf (fun _ => rfl) hlen w ty (fun R h => ⟨F, w, ty, h⟩) fun l ds D F' H' acc rl out s hD hF hDD rp => ?_
  exact q _ _ _ _ ⟨l, ds, rl, out, rfl⟩ s ⟨D, acc, rfl, hDD, rp, w.ne hD⟩ fun _ a e => by
    cases e
    exact ⟨hD, hF⟩
abbrev IXl (E : En) (f : Fm) (tg e : Expr) (G : List Ki) (ds : List Dt) : Prop := IX E f tg e G (fun ds' => ds' = ds)
theorem IX.weaken {R R' : List Dt → Prop} (h : IX E f tg iter G R) (i : ∀ k, R k → R' k) : IX E f tg iter G R' := fun X hX =>
  pi_w (h X hX) fun σ H Q ⟨F, w, t, q⟩ => ⟨F, w, t, fun J ds F' H' r => q J ds F' H' (i ds r)⟩
/-- all told: no tests -/
theorem ed_lc (t : Tgt) (own : List (Str × Nat)) (l : List α) (eD g : α → Dt) (hi : IXl E f tg iter G (l.map eD)) (hg : GX E (f.blk scope) tg t) (he : ∀ x ∈ l, ED E (f.blk scope) elt (t.set (eD x) (wipeK G (own.map (·.2)))) (g x))
    (hlen : l.length ≤ 1000000) (hf : ∀ x ∈ l, t.fits (eD x) := by exact fun _ _ => trivial) (hsl : ∀ j ∈ t.slots, j ∈ own.map (·.2) := by decide) (ok : blkC f.N f.sc scope own = true := by dsimp only [Fm.blk]; decide +kernel) (hs : ∀ (env : Env) x, foldedSetIterable iter env x = pure x := by intro _ _; rfl) :
    ED E f (.ListComp elt [⟨tg, iter, [], 0⟩] scope pos) G (.lst (l.map g)) := by
  refine (ex_lc t own (fun l' => l' = l) eD (fun _ b => b = true) (fun x d => d = g x) (hi.weaken fun ds h => ⟨l, rfl, h⟩) hg (fun _ _ _ _ => tsx_nil) (fun l' hl x hx _ => (he x (hl ▸ hx)).weaken fun k h => ⟨g x, rfl, h⟩) (fun l' hl x hx => hf x (hl ▸ hx)) (fun l' hl => by rw [hl]; exact hlen) hsl ok hs).weaken ?_
  rintro k ⟨l', ds, rfl, out, rfl⟩
  show Ki.dat (.lst ds) = Ki.dat (.lst (l'.map g))
  rw [LcOut.det (p := fun _ => true) (g := g) out (fun _ _ _ h => h) (fun _ _ _ h => h), List.filter_eq_self.mpr (fun _ _ => rfl)]
/-- all told, one test -/
theorem ed_lcf {ifc : Expr} (t : Tgt) (own : List (Str × Nat)) (l : List α) (eD g : α → Dt) (pt : α → Bool) (hi : IXl E f tg iter G (l.map eD)) (hg : GX E (f.blk scope) tg t) (ht : ∀ x ∈ l, TD E (f.blk scope) ifc (t.set (eD x) (wipeK G (own.map (·.2)))) (pt x))
    (he : ∀ x ∈ l, pt x = true → ED E (f.blk scope) elt (t.set (eD x) (wipeK G (own.map (·.2)))) (g x))
    (hlen : l.length ≤ 1000000) (hf : ∀ x ∈ l, t.fits (eD x) := by exact fun _ _ => trivial) (hsl : ∀ j ∈ t.slots, j ∈ own.map (·.2) := by decide) (ok : blkC f.N f.sc scope own = true := by dsimp only [Fm.blk]; decide +kernel) (hs : ∀ (env : Env) x, foldedSetIterable iter env x = pure x := by intro _ _; rfl) :
    ED E f (.ListComp elt [⟨tg, iter, [ifc], 0⟩] scope pos) G (.lst ((l.filter pt).map g)) := by
  refine (ex_lc t own (fun l' => l' = l) eD (fun x b => b = pt x) (fun x d => d = g x) (hi.weaken fun ds h => ⟨l, rfl, h⟩) hg (fun l' hl x hx => tsx_one (ht x (hl ▸ hx))) (fun l' hl x hx h => (he x (hl ▸ hx) h.symm).weaken fun k h => ⟨g x, rfl, h⟩) (fun l' hl x hx => hf x (hl ▸ hx)) (fun l' hl => by rw [hl]; exact hlen) hsl ok hs).weaken ?_
  rintro k ⟨l', ds, rfl, out, rfl⟩
  show Ki.dat (.lst ds) = Ki.dat (.lst ((l'.filter pt).map g))
  rw [LcOut.det (p := pt) (g := g) out (fun _ _ _ h => h) (fun _ _ _ h => h)]
theorem eo_lcf {ifc : Expr} (t : Tgt) (own : List (Str × Nat)) (l : List α) (eD g : α → Dt) (pt : α → Bool) (hi : IXl E f tg iter G (l.map eD)) (hg : GX E (f.blk scope) tg t) (ht : ∀ x ∈ l, TD E (f.blk scope) ifc (t.set (eD x) (wipeK G (own.map (·.2)))) (pt x))
    (he : ∀ x ∈ l, pt x = true → ED E (f.blk scope) elt (t.set (eD x) (wipeK G (own.map (·.2)))) (g x))
    (hlen : l.length ≤ 1000000) (hf : ∀ x ∈ l, t.fits (eD x) := by exact fun _ _ => trivial) (hsl : ∀ j ∈ t.slots, j ∈ own.map (·.2) := by decide) (ok : blkC f.N f.sc scope own = true := by dsimp only [Fm.blk]; decide +kernel) (hs : ∀ (env : Env) x, foldedSetIterable iter env x = pure x := by intro _ _; rfl) :
    EX E f (.ListComp elt [⟨tg, iter, [ifc], 0⟩] scope pos) G (fun k => k = .ol ((l.filter pt).map g)) := by
  refine (eo_lc t own (fun l' => l' = l) eD (fun x b => b = pt x) (fun x d => d = g x) (hi.weaken fun ds h => ⟨l, rfl, h⟩) hg (fun l' hl x hx => tsx_one (ht x (hl ▸ hx))) (fun l' hl x hx h => (he x (hl ▸ hx) h.symm).weaken fun k h => ⟨g x, rfl, h⟩) (fun l' hl x hx => hf x (hl ▸ hx)) (fun l' hl => by rw [hl]; exact hlen) hsl ok hs).weaken ?_
  rintro k ⟨l', ds, rfl, out, rfl⟩
  show Ki.ol ds = Ki.ol ((l'.filter pt).map g)
  rw [LcOut.det (p := pt) (g := g) out (fun _ _ _ h => h) (fun _ _ _ h => h)]
end
end A8
set_option Elab.async false
set_option linter.all false
set_option maxRecDepth 100000
set_option maxHeartbeats 4000000
namespace A8
open PySem PySem.Spec PyProof.Rows L2

variable {E : En} {f : Fm} {G : List Ki} {e a b c : Expr} {es : List Expr} {pos p pos' : Pos} {R Ra Rb : Ki → Prop}

/-! ### states of a def's body -/
structure Bs where
  H0 : Hp
  F0 : Hp
  F1 : Hp
structure Ok (E : En) (hd : Hd) (B : Bs) (G : List Ki) (σ : L2.St) (F H : Hp) : Prop where
  st : Stp hd B.F0 B.H0 F H
  ty : Ty E.K E.C hd F H G σ
  fl : Ex B.F1 F
  own : ∀ (i : Nat) (k : Ki) (a : Addr), G[i]? = some k → OwnK k → σ[i]? = some (some (.ref a)) → F a = none ∧ B.H0 a = none
  keep : ∀ (i : Nat) (k : Ki), G[i]? = some k → KeepK k
  dis : ∀ (i j : Nat) (k k' : Ki) (a : Addr), G[i]? = some k → G[j]? = some k' → OwnK k → OwnK k' → σ[i]? = some (some (.ref a)) → σ[j]? = some (some (.ref a)) → i = j
section
variable {hd : Hd} {B : Bs} {σ : L2.St} {F H F' H' : Hp}
theorem Ok.wd (o : Ok E hd B G σ F H) : Wd hd F H := o.st.wd
theorem own_at {k : Ki} {v : V} (z : OwnK k) (h : Ko E hd F H k v) : ∃ a o, v = .ref a ∧ H a = some o := by
  cases k with
  | ol ds => obtain ⟨a, xs, e, h, _⟩ := h; exact ⟨a, _, e, h⟩
  | od ds => obtain ⟨a, xs, e, h, _⟩ := h; exact ⟨a, _, e, h⟩
  | la b ds => obtain ⟨e, xs, h, _⟩ := h; exact ⟨b, _, e, h⟩
  | ob b dx ds => obtain ⟨e, xs, h, _⟩ := h; exact ⟨b, _, e, h⟩
  | _ => exact z.elim
theorem Ok.ownH (o : Ok E hd B G σ F H) {i : Nat} {k : Ki} {a : Addr} (hi : G[i]? = some k) (z : OwnK k) (e : σ[i]? = some (some (.ref a))) : ∃ u, H a = some u := by
  obtain ⟨v, h1, h2⟩ := o.ty.at hi (fun q => by rw [q] at z; exact z)
  rw [e] at h1
  cases h1
  obtain ⟨a', u, e', h'⟩ := own_at z h2
  cases e'
  exact ⟨u, h'⟩
theorem Ok.step (o : Ok E hd B G σ F H) (s : Stp hd F H F' H') : Ok E hd B G σ F' H' := by
  refine ⟨o.st.trans s, o.ty.mono s, o.fl.trans s.e.1, fun i k a hi z e => ?_, o.keep, o.dis⟩
  obtain ⟨h1, h2⟩ := o.own i k a hi z e
  obtain ⟨u, hu⟩ := o.ownH hi z e
  exact ⟨s.lack hu h1, h2⟩
/-- a value stored at slot i -/
theorem Ok.put (o : Ok E hd B G σ F H) (s : Stp hd F H F' H') (i : Nat) {k : Ki} {v : V} (h : Ko E hd F' H' k v) (fr : Fr k v H F') (kp : KeepK k := by trivial) : Ok E hd B (G.set i k) (σ.set i (some v)) F' H' := by
  have o' := o.step s
  have lt : ∀ {j : Nat} {k' : Ki}, (G.set i k)[j]? = some k' → j < G.length := fun {j k'} e => by
    have := (List.getElem?_eq_some_iff.mp e).1
    rwa [List.length_set] at this
  have fr0 : ∀ a, OwnK k → v = .ref a → F' a = none ∧ B.H0 a = none ∧ H a = none := fun a z e => by
    obtain ⟨h1, h2⟩ := fr z a e
    refine ⟨h2, ?_, h1⟩
    cases q : B.H0 a with
    | none => rfl
    | some u =>
      obtain ⟨u', h'⟩ := o.st.tr q
      rw [h1] at h'
      cases h'
  refine ⟨o'.st, o'.ty.set i h, o'.fl, fun j k' a hj z e => ?_, fun j k' hj => ?_, fun j j' k1 k2 a hj hj' z z' e e' => ?_⟩
  · have hl := lt hj
    by_cases q : i = j
    · subst q
      rw [List.getElem?_set_self hl] at hj
      cases hj
      rw [List.getElem?_set_self (by rw [← o.ty.len]; exact hl)] at e
      exact ⟨(fr0 a z (Option.some.inj (Option.some.inj e))).1, (fr0 a z (Option.some.inj (Option.some.inj e))).2.1⟩
    · rw [List.getElem?_set_ne q] at hj e
      exact o'.own j k' a hj z e
  · have hl := lt hj
    by_cases q : i = j
    · subst q
      rw [List.getElem?_set_self hl] at hj
      cases hj
      exact kp
    · rw [List.getElem?_set_ne q] at hj
      exact o.keep j k' hj
  · have hl := lt hj
    have hl' := lt hj'
    have old : ∀ {j : Nat} {k' : Ki}, i ≠ j → (G.set i k)[j]? = some k' → OwnK k' → (σ.set i (some v))[j]? = some (some (V.ref a)) → ∃ u, H a = some u := fun {j k'} q hj z e => by
      rw [List.getElem?_set_ne q] at hj e
      exact o.ownH hj z e
    by_cases q : i = j
    · subst q
      by_cases q' : i = j'
      · exact q'
      · rw [List.getElem?_set_self hl] at hj
        cases hj
        rw [List.getElem?_set_self (by rw [← o.ty.len]; exact hl)] at e
        obtain ⟨u, hu⟩ := old q' hj' z' e'
        rw [(fr0 a z (Option.some.inj (Option.some.inj e))).2.2] at hu
        cases hu
    · by_cases q' : i = j'
      · subst q'
        rw [List.getElem?_set_self hl'] at hj'
        cases hj'
        rw [List.getElem?_set_self (by rw [← o.ty.len]; exact hl')] at e'
        obtain ⟨u, hu⟩ := old q hj z e
        rw [(fr0 a z' (Option.some.inj (Option.some.inj e'))).2.2] at hu
        cases hu
      · rw [List.getElem?_set_ne q] at hj e
        rw [List.getElem?_set_ne q'] at hj' e'
        exact o.dis j j' k1 k2 a hj hj' z z' e e'
/-- the slots by another target: plain data -/
theorem Ok.tgt {d : Dt} {v : V} {Q : L2.St → Hp → Prop} (o : Ok E hd B G σ F H) (t : Tgt) (h : Rp E.K E.C F v d) (ft : t.fits d) (q : ∀ σ', Ok E hd B (t.set d G) σ' F H → Q σ' H) : t.tg E.K v σ H Q := by
  cases t with
  | one j => exact q _ (o.put (Stp.refl o.wd) j (k := .dat d) h Fr.dat)
  | two i j =>
    obtain ⟨x, y, rfl⟩ := ft
    cases h with
    | tup h1 h2 =>
      cases h2 with
      | cons r1 r2 =>
        cases r2 with
        | cons r2 r3 =>
          cases r3
          refine ⟨_, _, rfl, SqT.of (o.wd.ex _ _ h1), rfl, _, _, rfl, _, _, rfl, rfl, ?_⟩
          have o1 := o.put (Stp.refl o.wd) i (k := .dat x) r1 Fr.dat
          exact q _ (o1.put (Stp.refl o.wd) j (k := .dat y) r2 Fr.dat)
/-- an own list is told as known from now on -/
theorem Ok.freeze (o : Ok E hd B G σ F H) {i : Nat} {ds : List Dt} (hi : G[i]? = some (.ol ds)) : ∃ F', Ok E hd B (G.set i (.dat (.lst ds))) σ F' H ∧ Ex F F' := by
  obtain ⟨v, h1, a, xs, rfl, h2, h3, h4⟩ := o.ty.at hi (fun z => nomatch z)
  obtain ⟨hF, hB⟩ := o.own i _ a hi True.intro h1
  have hil : i < G.length := (List.getElem?_eq_some_iff.mp hi).1
  have st : Stp hd B.F0 B.H0 (upd F a (.lst xs)) H := o.st.freeze hB hF h2 h4
  have s2 : ∀ {k : Ki} {v : V}, Ko E hd F H k v → Ko E hd (upd F a (.lst xs)) H k v := fun {k v} h => by
    cases k with
    | un => exact True.intro
    | dat d => exact Rp.mono (Ex.new hF) h
    | ol ds => obtain ⟨a, xs, e, h, r, n⟩ := h; exact ⟨a, xs, e, h, r.mono (Ex.new hF), n⟩
    | od ds => obtain ⟨a, xs, e, h, r, n⟩ := h; exact ⟨a, xs, e, h, r.mono (Ex.new hF), n⟩
    | vl ds => obtain ⟨a, xs, e, h, r, n⟩ := h; exact ⟨a, xs, e, h, r.mono (Ex.new hF), n⟩
    | vd ds => obtain ⟨a, xs, e, h, r, n⟩ := h; exact ⟨a, xs, e, h, r.mono (Ex.new hF), n⟩
    | hand => exact h
    | la b ds => obtain ⟨e, xs, h, r, n⟩ := h; exact ⟨e, xs, h, r.mono (Ex.new hF), n⟩
    | ob b dx ds => obtain ⟨e, xs, h, r, n⟩ := h; exact ⟨e, xs, h, r.mono (Ex.new hF), n⟩
  have split : ∀ {j : Nat} {k' : Ki}, (G.set i (.dat (.lst ds)))[j]? = some k' → (j = i ∧ k' = .dat (.lst ds)) ∨ (j ≠ i ∧ G[j]? = some k') := fun {j k'} e => by
    by_cases q : i = j
    · subst q
      rw [List.getElem?_set_self hil] at e
      exact .inl ⟨rfl, (Option.some.inj e).symm⟩
    · rw [List.getElem?_set_ne q] at e
      exact .inr ⟨fun z => q z.symm, e⟩
  refine ⟨upd F a (.lst xs), ⟨st, ⟨by rw [List.length_set]; exact o.ty.len, fun j k' e => ?_⟩, o.fl.trans (Ex.new hF), fun j k' b e z eb => ?_, fun j k' e => ?_, fun j j' k1 k2 b e e' z z' eb eb' => ?_⟩, Ex.new hF⟩
  · rcases split e with ⟨rfl, rfl⟩ | ⟨q, e⟩
    · exact .inr ⟨.ref a, h1, Rp.lst upd_same (h3.mono (Ex.new hF))⟩
    · exact (o.ty.ok j k' e).imp id fun ⟨v, h1, h2⟩ => ⟨v, h1, s2 h2⟩
  · rcases split e with ⟨rfl, rfl⟩ | ⟨q, e⟩
    · exact z.elim
    · obtain ⟨q1, q2⟩ := o.own j k' b e z eb
      have : b ≠ a := fun w => q (o.dis j i k' _ a e hi z True.intro (w ▸ eb) h1)
      exact ⟨by rw [upd_ne this]; exact q1, q2⟩
  · rcases split e with ⟨rfl, rfl⟩ | ⟨q, e⟩
    · exact True.intro
    · exact o.keep j k' e
  · rcases split e with ⟨rfl, rfl⟩ | ⟨q, e⟩
    · exact z.elim
    · rcases split e' with ⟨rfl, rfl⟩ | ⟨q', e'⟩
      · exact z'.elim
      · exact o.dis j j' k1 k2 b e e' z z' eb eb'
/-- an own thing is changed -/
theorem Ok.mut (o : Ok E hd B G σ F H) {i : Nat} {k k' : Ki} {a : Addr} {u : HO} (hi : G[i]? = some k) (z : OwnK k) (e : σ[i]? = some (some (.ref a))) (n : ∀ p c, hd = some (p, c) → a ≠ p) (z' : OwnK k')
    (h : Ko E hd F (upd H a u) k' (.ref a)) : Ok E hd B (G.set i k') σ F (upd H a u) := by
  obtain ⟨hF, hB⟩ := o.own i k a hi z e
  have hil : i < G.length := (List.getElem?_eq_some_iff.mp hi).1
  have split : ∀ {j : Nat} {k1 : Ki}, (G.set i k')[j]? = some k1 → (j = i ∧ k1 = k') ∨ (j ≠ i ∧ G[j]? = some k1) := fun {j k1} e => by
    by_cases q : i = j
    · subst q
      rw [List.getElem?_set_self hil] at e
      exact .inl ⟨rfl, (Option.some.inj e).symm⟩
    · rw [List.getElem?_set_ne q] at e
      exact .inr ⟨fun z => q z.symm, e⟩
  have z0 : ∀ {k : Ki}, OwnK k → KeepK k := fun {k} z => by cases k <;> first | exact True.intro | exact z.elim
  have other : ∀ {j : Nat} {k1 : Ki} {v : V}, j ≠ i → G[j]? = some k1 → σ[j]? = some (some v) → Ko E hd F H k1 v → Ko E hd F (upd H a u) k1 v := fun {j k1 v} q hj hv hk => by
    have kp := o.keep j k1 hj
    cases k1 with
    | un => exact True.intro
    | dat d => exact hk
    | ol ds =>
      obtain ⟨b, xs, e', h', r, n'⟩ := hk
      subst e'
      have : b ≠ a := fun w => q (o.dis j i _ k a hj hi True.intro z (w ▸ hv) e)
      exact ⟨b, xs, rfl, by rw [upd_ne this]; exact h', r, n'⟩
    | od ds =>
      obtain ⟨b, xs, e', h', r, n'⟩ := hk
      subst e'
      have : b ≠ a := fun w => q (o.dis j i _ k a hj hi True.intro z (w ▸ hv) e)
      exact ⟨b, xs, rfl, by rw [upd_ne this]; exact h', r, n'⟩
    | vl ds => exact kp.elim
    | vd ds => exact kp.elim
    | hand => exact hk
    | la b ds =>
      obtain ⟨e', xs, h', r, n'⟩ := hk
      subst e'
      have : b ≠ a := fun w => q (o.dis j i _ k a hj hi True.intro z (w ▸ hv) e)
      exact ⟨rfl, xs, by rw [upd_ne this]; exact h', r, n'⟩
    | ob b dx ds =>
      obtain ⟨e', xs, h', r, n'⟩ := hk
      subst e'
      have : b ≠ a := fun w => q (o.dis j i _ k a hj hi True.intro z (w ▸ hv) e)
      exact ⟨rfl, xs, by rw [upd_ne this]; exact h', r, n'⟩
  refine ⟨o.st.mut hB hF n, ⟨by rw [List.length_set]; exact o.ty.len, fun j k1 hj => ?_⟩, o.fl, fun j k1 b hj z1 eb => ?_, fun j k1 hj => ?_, fun j j' k1 k2 b hj hj' z1 z2 eb eb' => ?_⟩
  · rcases split hj with ⟨rfl, rfl⟩ | ⟨q, hj⟩
    · exact .inr ⟨.ref a, e, h⟩
    · exact (o.ty.ok j k1 hj).imp id fun ⟨v, h1, h2⟩ => ⟨v, h1, other q hj h1 h2⟩
  · rcases split hj with ⟨rfl, rfl⟩ | ⟨q, hj⟩
    · exact o.own _ k b hi z eb
    · exact o.own j k1 b hj z1 eb
  · rcases split hj with ⟨rfl, rfl⟩ | ⟨q, hj⟩
    · exact z0 z'
    · exact o.keep j k1 hj
  · rcases split hj with ⟨rfl, rfl⟩ | ⟨q, hj0⟩
    · rcases split hj' with ⟨rfl, rfl⟩ | ⟨q', hj'⟩
      · rfl
      · exact o.dis _ j' k k2 b hi hj' z z2 eb eb'
    · rcases split hj' with ⟨rfl, rfl⟩ | ⟨q', hj''⟩
      · exact o.dis j _ k1 k b hj0 hi z1 z eb eb'
      · exact o.dis j j' k1 k2 b hj0 hj'' z1 z2 eb eb'
theorem Ok.floor (o : Ok E hd B G σ F H) : Ok E hd { B with F1 := F } G σ F H := ⟨o.st, o.ty, Ex.refl F, o.own, o.keep, o.dis⟩
theorem Ok.unfloor {B' : Bs} (o : Ok E hd B' G σ F H) (h0 : B'.H0 = B.H0) (f0 : B'.F0 = B.F0) (f1 : Ex B.F1 B'.F1) : Ok E hd B G σ F H :=
  ⟨by rw [← h0, ← f0]; exact o.st, o.ty, f1.trans o.fl, by rw [← h0]; exact o.own, o.keep, o.dis⟩
end

/-! ### statements -/
/-- from the kinds G: ends normally with N, or returns with P -/
def tS (E : En) (hd : Hd) (G : List Ki) (N : List Ki → Prop) (P : Ki → List Ki → Prop) : TS := fun D σ H => ∃ B F, Ok E hd B G σ F H ∧ (∀ G' σ' F' H', N G' → Ok E hd B G' σ' F' H' → D.nx σ' H') ∧
  ∀ k v G' σ' F' H', P k G' → Ok E hd B G' σ' F' H' → Ko E hd F' H' k v → Fr k v B.H0 F' → D.rt v H'
def SX (E : En) (f : Fm) (sts : List Stmt) (G : List Ki) (N : List Ki → Prop) (P : Ki → List Ki → Prop) : Prop := ∀ X, FmOk E f X → PSs X sts (tS E f.hd G N P)
def S1 (E : En) (f : Fm) (st : Stmt) (G : List Ki) (N : List Ki → Prop) (P : Ki → List Ki → Prop) : Prop := ∀ X, FmOk E f X → PS X st (tS E f.hd G N P)
theorem ps_w {X : Cx} {st : Stmt} {t u : TS} (h : PS X st t) (i : ∀ D σ H, u D σ H → t D σ H) : PS X st u := ⟨fun pins s σ H D I q => h.run pins s σ H D I (i D σ H q)⟩
theorem pss_w {X : Cx} {st : List Stmt} {t u : TS} (h : PSs X st t) (i : ∀ D σ H, u D σ H → t D σ H) : PSs X st u := ⟨fun pins s σ H D I q => h.run pins s σ H D I (i D σ H q)⟩
section
variable {st : Stmt} {sts rest body orelse : List Stmt} {N N1 : List Ki → Prop} {P : Ki → List Ki → Prop}
theorem sx_nil (h : N G) : SX E f [] G N P := fun X hX => pss_w pss_nil fun D σ H ⟨B, F, o, n, r⟩ => n G σ F H h o
theorem sx_cons (h1 : S1 E f st G N1 P) (h2 : ∀ G', N1 G' → SX E f rest G' N P) : SX E f (st :: rest) G N P := fun X hX => by
  refine pss_w (pss_cons (h1 X hX) (pss_un' fun G' hG' => h2 G' hG' X hX)) ?_
  rintro D σ H ⟨B, F, o, n, r⟩
  exact ⟨B, F, o, fun G' σ' F' H' hn o' => ⟨G', hn, B, F', o', n, r⟩, r⟩
theorem sx_one (h1 : S1 E f st G N P) : SX E f [st] G N P := fun X hX => pss_one (h1 X hX)
theorem SX.weaken {N' : List Ki → Prop} (h : SX E f sts G N P) (i : ∀ G', N G' → N' G') : SX E f sts G N' P := fun X hX => pss_w (h X hX) fun D σ H ⟨B, F, o, n, r⟩ => ⟨B, F, o, fun G' σ' F' H' hn => n G' σ' F' H' (i G' hn), r⟩
theorem S1.weaken {N' : List Ki → Prop} (h : S1 E f st G N P) (i : ∀ G', N G' → N' G') : S1 E f st G N' P := fun X hX => ps_w (h X hX) fun D σ H ⟨B, F, o, n, r⟩ => ⟨B, F, o, fun G' σ' F' H' hn => n G' σ' F' H' (i G' hn), r⟩
theorem s1_ret (h : EX E f e G (fun k => P k G)) : S1 E f (.Return (some e) pos) G N P := fun X hX => by
  refine ps_w (ps_ret (h X hX)) ?_
  rintro D σ H ⟨B, F, o, n, r⟩
  exact ⟨F, o.wd, o.ty, fun k v F' H' pk s kv fr => r k v G σ F' H' pk (o.step s) kv (fr.back o.st)⟩
theorem s1_if {Rb : Bool → Prop} (h : TX E f c G Rb) (h1 : Rb true → SX E f body G N P) (h2 : Rb false → SX E f orelse G N P) : S1 E f (.If c body orelse pos) G N P := fun X hX => by
  refine ps_w (ps_if (t := fun D σ H => ∃ _ : Unit, Rb true ∧ tS E f.hd G N P D σ H) (u := fun D σ H => ∃ _ : Unit, Rb false ∧ tS E f.hd G N P D σ H) (h X hX) (pss_un' fun _ q => h1 q X hX) (pss_un' fun _ q => h2 q X hX)) ?_
  rintro D σ H ⟨B, F, o, n, r⟩
  refine ⟨F, o.wd, o.ty, fun b F' H' rb s => ?_⟩
  cases b with
  | true => exact iteT ⟨(), rb, B, F', o.step s, n, r⟩
  | false => exact iteF ⟨(), rb, B, F', o.step s, n, r⟩
/-- x = e -/
theorem s1_set {x : Str} (i : Nat) (h : EX E f e G R) (kp : ∀ k, R k → KeepK k) (hN : f.N[i]? = some x := by rfl) (hl : LocS f.sc x := by first | exact Or.inl rfl | exact Or.inr rfl) (hf : f.fn x = true ∨ f.sc.names.lookup x = some .local := by first | exact .inl rfl | exact .inr rfl)
    (hs : ∀ env : Env, env.scope = f.sc → swapsWith e (some (.Name x pos')) pos.line env = pure false := by intro _ _; rfl) : S1 E f (.Assign [.Name x pos'] e pos) G (fun G' => ∃ k, R k ∧ G' = G.set i k) P := fun X hX => by
  refine ps_w (ps_set (i := i) (by rw [hX.N]; exact hX.nd) (by rw [hX.N]; exact hN) (by show LocS X.env.scope x; rw [hX.sc]; exact hl) (h X hX) (hs X.env hX.sc) (by rw [hX.fn, hX.sc]; exact hf)) ?_
  rintro D σ H ⟨B, F, o, n, r⟩
  exact ⟨F, o.wd, o.ty, fun k v F' H' rk s kv fr => n _ _ F' H' ⟨k, rk, rfl⟩ (o.put s i kv fr (kp k rk))⟩
/-- x = e; the rest: all told -/
theorem sx_set {x : Str} {k : Ki} (i : Nat) (h : EX E f e G (fun k' => k' = k)) (h2 : SX E f rest (G.set i k) N P) (kp : KeepK k := by trivial) (hN : f.N[i]? = some x := by rfl) (hl : LocS f.sc x := by first | exact Or.inl rfl | exact Or.inr rfl)
    (hf : f.fn x = true ∨ f.sc.names.lookup x = some .local := by first | exact .inl rfl | exact .inr rfl) (hs : ∀ env : Env, env.scope = f.sc → swapsWith e (some (.Name x pos')) pos.line env = pure false := by intro _ _; rfl) : SX E f (.Assign [.Name x pos'] e pos :: rest) G N P :=
  sx_cons (s1_set i h (fun k' q => by rw [q]; exact kp) hN hl hf hs) fun G' ⟨k', q, e⟩ => by
    rw [e, q]
    exact h2
theorem sx_freeze (i : Nat) {ds : List Dt} (hi : G[i]? = some (.ol ds)) (h : SX E f sts (G.set i (.dat (.lst ds))) N P) : SX E f sts G N P := fun X hX => by
  refine pss_w (h X hX) ?_
  rintro D σ H ⟨B, F, o, n, r⟩
  obtain ⟨F', o', _⟩ := o.freeze hi
  exact ⟨B, F', o', n, r⟩
/-- a slot is forgotten -/
theorem Ok.forget {hd : Hd} {B : Bs} {σ : L2.St} {F H : Hp} (o : Ok E hd B G σ F H) {G' : List Ki} (hl : G'.length = G.length) (h : ∀ (i : Nat) k, G'[i]? = some k → k = .un ∨ G[i]? = some k) : Ok E hd B G' σ F H := by
  have z0 : ∀ {i : Nat} {k : Ki}, OwnK k → G'[i]? = some k → G[i]? = some k := fun {i k} z e => (h i k e).resolve_left fun q => by rw [q] at z; exact z
  refine ⟨o.st, ⟨by rw [hl]; exact o.ty.len, fun i k e => ?_⟩, o.fl, fun i k a e z ea => o.own i k a (z0 z e) z ea, fun i k e => ?_, fun i j k k' a e e' z z' ea ea' => o.dis i j k k' a (z0 z e) (z0 z' e') z z' ea ea'⟩
  · rcases h i k e with q | q
    · exact .inl q
    · exact o.ty.ok i k q
  · rcases h i k e with q | q
    · rw [q]; exact True.intro
    · exact o.keep i k q
def KsLe : List Ki → List Ki → Prop
  | [], [] => True
  | k :: ks, k' :: ks' => (k = .un ∨ k = k') ∧ KsLe ks ks'
  | _, _ => False
theorem KsLe.len : ∀ {a b : List Ki}, KsLe a b → a.length = b.length
  | [], [], _ => rfl
  | _ :: _, _ :: _, h => by rw [List.length_cons, List.length_cons, KsLe.len h.2]
theorem KsLe.at : ∀ {a b : List Ki}, KsLe a b → ∀ (i : Nat) k, a[i]? = some k → k = .un ∨ b[i]? = some k
  | [], [], _, i, k, e => by simp at e
  | _ :: _, _ :: _, h, 0, k, e => by
    simp at e
    subst e
    exact h.1.imp id fun q => by rw [q]; rfl
  | _ :: _, _ :: _, h, i + 1, k, e => by
    have := KsLe.at h.2 i k (by simpa using e)
    simpa using this
theorem sx_forget {G' : List Ki} (hl : KsLe G' G) (h : SX E f sts G' N P) : SX E f sts G N P := fun X hX => by
  refine pss_w (h X hX) ?_
  rintro D σ H ⟨B, F, o, n, r⟩
  exact ⟨B, F, o.forget hl.len hl.at, n, r⟩
/-- for tg in iter: body -/
theorem s1_for {α : Type} {tg iter : Expr} (t : Tgt) (l : List α) (eD : α → Dt) (I : Nat → List Ki → Prop) (hi : IX E f tg iter G (fun ds => ds = l.map eD)) (hg : GX E f tg t) (h0 : I 0 G)
    (hs : ∀ (i : Nat) (x : α), l[i]? = some x → ∀ G', I i G' → SX E f body (t.set (eD x) G') (fun G2 => I (i + 1) G2) P) (hf : ∀ x ∈ l, t.fits (eD x) := by exact fun _ _ => trivial)
    (hfs : ∀ (env : Env) x, foldedSetIterable iter env x = pure x := by intro _ _; rfl) : S1 E f (.For tg iter body [] pos) G (fun G' => I l.length G') P := fun X hX => by
  have hpo : PassesOwn (model X.prog X.w) X.A X.env X.xe := by rw [hX.nx]; exact PassesOwn.never
  refine ps_w (ps_for (tb := fun D σ H => ∃ z : Nat × α × List Ki, (l[z.1]? = some z.2.1 ∧ I z.1 z.2.2) ∧ tS E f.hd (t.set (eD z.2.1) z.2.2) (fun G2 => I (z.1 + 1) G2) P D σ H) hpo hX.calm (hi X hX) (hg X hX) (pss_un' fun z hz => hs z.1 z.2.1 hz.1 z.2.2 hz.2 X hX) (hfs _)) ?_
  rintro D σ H ⟨B, F, o, n, r⟩
  refine ⟨F, o.wd, o.ty, ?_⟩
  rintro J ds F1 H1 rfl s1 it
  have o1 := (o.step s1).floor
  refine ⟨fun i m σ' H' => m = l.length - i ∧ i ≤ l.length ∧ ∃ G' F', I i G' ∧ Ok E f.hd { B with F1 := F1 } G' σ' F' H', ⟨l.length, by omega, Nat.zero_le _, G, F1, h0, o1⟩, ?_⟩
  rintro i m σ' H' ⟨rfl, hil, G', F', hI, o'⟩
  have it2 := it i F' H' o'.fl o'.wd
  by_cases hlt : i < l.length
  · have hx : l[i]? = some l[i] := List.getElem?_eq_getElem hlt
    have hmem : l[i] ∈ l := List.getElem_mem hlt
    obtain ⟨go, yld⟩ := it2.1 (eD l[i]) (by rw [List.getElem?_map, hx]; rfl)
    refine .inr ⟨go, fun σ2 H2 => ∃ G2 F2, I (i + 1) G2 ∧ Ok E f.hd { B with F1 := F1 } G2 σ2 F2 H2, fun σ2 H2 ⟨G2, F2, h2, o2⟩ => ⟨l.length - (i + 1), by omega, rfl, hlt, G2, F2, h2, o2⟩, fun x H3 y => ?_⟩
    obtain ⟨F3, s3, rx⟩ := yld x H3 y
    refine (o'.step s3).tgt t rx (hf _ hmem) fun σ4 o4 => ?_
    exact ⟨⟨i, l[i], G'⟩, ⟨hx, hI⟩, { B with F1 := F1 }, F3, o4, fun G5 σ5 F5 H5 h5 o5 => ⟨G5, F5, h5, o5⟩, fun k v G5 σ5 F5 H5 pk o5 => r k v G5 σ5 F5 H5 pk (o5.unfloor rfl rfl ((o.fl).trans s1.e.1))⟩
  · have e : i = l.length := by omega
    subst e
    exact .inl ⟨it2.2 (by rw [List.length_map]; exact Nat.le_refl _), n G' σ' F' H' hI (o'.unfloor rfl rfl ((o.fl).trans s1.e.1))⟩
/-- while c: body -/
theorem s1_while (I : Nat → List Ki → Prop) (m0 : Nat) (h0 : I m0 G) (tb : Nat → List Ki → Bool) (hc : ∀ m G', I m G' → TD E f c G' (tb m G'))
    (hs : ∀ m G', I m G' → tb m G' = true → SX E f body G' (fun G2 => ∃ m', m' < m ∧ I m' G2) P) (hn : ∀ m G', I m G' → tb m G' = false → N G') : S1 E f (.While c body [] pos) G N P := fun X hX => by
  have hpo : PassesOwn (model X.prog X.w) X.A X.env X.xe := by rw [hX.nx]; exact PassesOwn.never
  have hct : PT X c (fun σ H Q => ∃ z : Nat × List Ki, I z.1 z.2 ∧ tGT E f.hd z.2 (fun b => b = tb z.1 z.2) σ H Q) := ⟨fun pins s σ H Q In ⟨z, hz, q⟩ => (hc z.1 z.2 hz X hX).run pins s σ H Q In q⟩
  refine ps_w (ps_while (tb := fun D σ H => ∃ z : Nat × List Ki, (I z.1 z.2 ∧ tb z.1 z.2 = true) ∧ tS E f.hd z.2 (fun G2 => ∃ m', m' < z.1 ∧ I m' G2) P D σ H) hpo hct (pss_un' fun z hz => hs z.1 z.2 hz.1 hz.2 X hX)) ?_
  rintro D σ H ⟨B, F, o, n, r⟩
  refine ⟨fun m σ' H' => ∃ G' F', I m G' ∧ Ok E f.hd B G' σ' F' H', ⟨m0, G, F, h0, o⟩, ?_⟩
  rintro m σ' H' ⟨G', F', hI, o'⟩
  refine ⟨⟨m, G'⟩, hI, F', o'.wd, o'.ty, ?_⟩
  rintro b F2 H2 rfl s2
  show if tb m G' = true then _ else _
  cases q : tb m G' with
  | true =>
    refine iteT ⟨fun σ3 H3 => ∃ m' G3 F3, m' < m ∧ I m' G3 ∧ Ok E f.hd B G3 σ3 F3 H3, fun σ3 H3 ⟨m', G3, F3, hm, h3, o3⟩ => ⟨m', hm, G3, F3, h3, o3⟩, ?_⟩
    exact ⟨⟨m, G'⟩, ⟨hI, q⟩, B, F2, o'.step s2, fun G4 σ4 F4 H4 ⟨m', hm, h4⟩ o4 => ⟨m', G4, F4, hm, h4, o4⟩, r⟩
  | false => exact iteF (n G' σ' F2 H2 (hn m G' hI q) (o'.step s2))
/-- x, y = a, b (two plain locals) -/
theorem s1_par {x y : Str} {px py pt : Pos} {kt k2 pt2} (i j : Nat) (ha : EX E f a G Ra) (hb : EX E f b G Rb) (ka : ∀ k, Ra k → KeepK k) (kb : ∀ k, Rb k → KeepK k) (hN : f.N[i]? = some x := by rfl) (hN2 : f.N[j]? = some y := by rfl) (hij : i ≠ j := by decide)
    (hx : f.sc.names.lookup x = some .local := by rfl) (hy : f.sc.names.lookup y = some .local := by rfl)
    (hw : ∀ env : Env, env.scope = f.sc → swappedStores [.Tuple [.Name x px, .Name y py] kt pt] (.Tuple [a, b] k2 pt2) env = pure (some [x, y]) := by rintro ⟨_⟩ rfl; rfl) (hs : ∀ env : Env, env.scope = f.sc → swapsWithSole [.Tuple [.Name x px, .Name y py] kt pt] (.Tuple [a, b] k2 pt2) pos.line env = pure false := by intro _ _; rfl)
    (h1 : ∀ env : Env, starEach [a, b] env = (false, eval a env) :: starEach [b] env := by intro _; rfl) (h2 : ∀ env : Env, starEach [b] env = (false, eval b env) :: starEach [] env := by intro _; rfl) :
    S1 E f (.Assign [.Tuple [.Name x px, .Name y py] kt pt] (.Tuple [a, b] k2 pt2) pos) G (fun G' => ∃ k k', Ra k ∧ Rb k' ∧ G' = (G.set i k).set j k') P := fun X hX => by
  refine ps_w (ps_par (i := i) (j := j) hX.calm (by rw [hX.N]; exact hX.nd) (by rw [hX.N]; exact hN) (by rw [hX.N]; exact hN2) hij (by rw [hX.sc]; exact hx) (by rw [hX.sc]; exact hy) (pa_cons (ha X hX) (pa_cons (hb X hX) pa_nil (h2 _)) (h1 _)) (hw _ hX.sc) (hs _ hX.sc)) ?_
  rintro D σ H ⟨B, F, o, n, r⟩
  refine ⟨F, o.wd, o.ty, fun k v F1 H1 rk s1 kv fr => ⟨F1, s1.wd, o.ty.mono s1, fun k' v' F2 H2 rk' s2 kv' fr' => ⟨v, v', rfl, ?_⟩⟩⟩
  have o1 := o.put s1 i kv fr (ka k rk)
  exact n _ _ F2 H2 ⟨k, k', rk, rk', rfl⟩ (o1.put s2 j kv' fr' (kb k' rk'))
theorem s1_par3 {x y z : Str} {px py pz pt : Pos} {kt k2 pt2} {Rc : Ki → Prop} (i j l : Nat) (ha : EX E f a G Ra) (hb : EX E f b G Rb) (hc : EX E f c G Rc) (ka : ∀ k, Ra k → KeepK k) (kb : ∀ k, Rb k → KeepK k) (kc : ∀ k, Rc k → KeepK k)
    (hN : f.N[i]? = some x := by rfl) (hN2 : f.N[j]? = some y := by rfl) (hN3 : f.N[l]? = some z := by rfl) (hij : i ≠ j := by decide) (hil : i ≠ l := by decide) (hjl : j ≠ l := by decide)
    (hx : f.sc.names.lookup x = some .local := by rfl) (hy : f.sc.names.lookup y = some .local := by rfl) (hz : f.sc.names.lookup z = some .local := by rfl)
    (hw : ∀ env : Env, env.scope = f.sc → swappedStores [.Tuple [.Name x px, .Name y py, .Name z pz] kt pt] (.Tuple [a, b, c] k2 pt2) env = pure (some [x, y, z]) := by rintro ⟨_⟩ rfl; rfl) (hs : ∀ env : Env, env.scope = f.sc → swapsWithSole [.Tuple [.Name x px, .Name y py, .Name z pz] kt pt] (.Tuple [a, b, c] k2 pt2) pos.line env = pure false := by intro _ _; rfl)
    (h1 : ∀ env : Env, starEach [a, b, c] env = (false, eval a env) :: starEach [b, c] env := by intro _; rfl) (h2 : ∀ env : Env, starEach [b, c] env = (false, eval b env) :: starEach [c] env := by intro _; rfl) (h3 : ∀ env : Env, starEach [c] env = (false, eval c env) :: starEach [] env := by intro _; rfl) :
    S1 E f (.Assign [.Tuple [.Name x px, .Name y py, .Name z pz] kt pt] (.Tuple [a, b, c] k2 pt2) pos) G (fun G' => ∃ k k' k'', Ra k ∧ Rb k' ∧ Rc k'' ∧ G' = ((G.set i k).set j k').set l k'') P := fun X hX => by
  refine ps_w (ps_par3 (i := i) (j := j) (l := l) hX.calm (by rw [hX.N]; exact hX.nd) (by rw [hX.N]; exact hN) (by rw [hX.N]; exact hN2) (by rw [hX.N]; exact hN3) hij hil hjl (by rw [hX.sc]; exact hx) (by rw [hX.sc]; exact hy) (by rw [hX.sc]; exact hz)
    (pa_cons (ha X hX) (pa_cons (hb X hX) (pa_cons (hc X hX) pa_nil (h3 _)) (h2 _)) (h1 _)) (hw _ hX.sc) (hs _ hX.sc)) ?_
  rintro D σ H ⟨B, F, o, n, r⟩
  refine ⟨F, o.wd, o.ty, fun k v F1 H1 rk s1 kv fr => ⟨F1, s1.wd, o.ty.mono s1, fun k' v' F2 H2 rk' s2 kv' fr' => ⟨F2, s2.wd, (o.ty.mono s1).mono s2, fun k'' v'' F3 H3 rk'' s3 kv'' fr'' => ⟨v, v', v'', rfl, ?_⟩⟩⟩⟩
  have o1 := o.put s1 i kv fr (ka k rk)
  have o2 := o1.put s2 j kv' fr' (kb k' rk')
  exact n _ _ F3 H3 ⟨k, k', k'', rk, rk', rk'', rfl⟩ (o2.put s3 l kv'' fr'' (kc k'' rk''))
end

/-! y = [..] with y a plain local, on one line -/
section
variable {rest : List Stmt} {N : List Ki → Prop} {P : Ki → List Ki → Prop} {elt tg iter : Expr} {ifs : List Expr} {scope : Scope} {α : Type}
theorem s1_setLc {y : Str} {py spos : Pos} (i : Nat) (t : Tgt) (own : List (Str × Nat)) (RL : List α → Prop) (eD : α → Dt) (Rt : α → Bool → Prop) (Re : α → Dt → Prop) (hi : IX E f tg iter G (fun ds => ∃ l, RL l ∧ ds = l.map eD)) (hg : GX E (f.blk scope) tg t)
    (ht : ∀ l, RL l → ∀ x ∈ l, TsX E (f.blk scope) ifs (t.set (eD x) (wipeK G (own.map (·.2)))) (Rt x))
    (he : ∀ l, RL l → ∀ x ∈ l, Rt x true → EX E (f.blk scope) elt (t.set (eD x) (wipeK G (own.map (·.2)))) (fun k => ∃ d, Re x d ∧ k = .dat d))
    (hlen : ∀ l, RL l → l.length ≤ 1000000) (hN : f.N[i]? = some y := by rfl) (hl : f.sc.names.lookup y = some .local := by rfl) (hk : f.sc.kind = .function := by rfl) (hln : (py.line == pos.line) = true := by rfl)
    (hsc : (scope.names.any fun (n, k) => n == y && (k == .local || k == .cell)) = false := by decide +kernel)
    (hf : ∀ l, RL l → ∀ x ∈ l, t.fits (eD x) := by exact fun _ _ _ _ => trivial) (hsl : ∀ j ∈ t.slots, j ∈ own.map (·.2) := by decide) (ok : blkC f.N f.sc scope own = true := by dsimp only [Fm.blk]; decide +kernel) (hs : ∀ (env : Env) x, foldedSetIterable iter env x = pure x := by intro _ _; rfl) :
    S1 E f (.Assign [.Name y py] (.ListComp elt [⟨tg, iter, ifs, 0⟩] scope pos) spos) G (fun G' => ∃ l ds, RL l ∧ LcOut Rt Re l ds ∧ G' = G.set i (.dat (.lst ds))) P := fun X hX => by
  refine ps_w (ps_setLc (i := i) (own := own) hX.calm (by rw [hX.N]; exact hX.nd) (by rw [hX.N]; exact hN) (by rw [hX.sc]; exact hl) (sw_true (by rw [hX.sc]; exact hk) (by rw [hX.sc]; exact hl) hln hsc) (hi X hX) (blkOk_by (by rw [hX.N, hX.sc]; exact ok))
    (fun s H C cl fp => hg _ (hX.blk scope s H C cl fp)) (fun s H C cl fp => pts_un' fun x (h : ∃ l, RL l ∧ x ∈ l) => ht _ h.choose_spec.1 x h.choose_spec.2 _ (hX.blk scope s H C cl fp))
    (fun s H C cl fp => pe_un' fun x (h : (∃ l, RL l ∧ x ∈ l) ∧ Rt x true) => he _ h.1.choose_spec.1 x h.1.choose_spec.2 h.2 _ (hX.blk scope s H C cl fp)) (hs _)) ?_
  rintro D σ H ⟨B, F, o, n, r⟩
  show tLc _ _ _ _ _ σ H (fun x H1 => D.nx (σ.set i (some x)) H1)
  refine lc_red hsl hf (fun _ => rfl) hlen o.wd o.ty (fun R h => ⟨F, o.wd, o.ty, h⟩) fun l ds D' F' H' acc rl out s hD hF hDD rp => ?_
  have s' := s.freeze hD hF hDD (o.wd.ne hD)
  exact n _ _ _ H' ⟨l, ds, rl, out, rfl⟩ (o.put s' i (k := .dat (.lst ds)) (Rp.lst upd_same (rp.mono (Ex.new hF))) Fr.dat)
/-- all told: no tests -/
theorem sx_setLc {y : Str} {py spos : Pos} (i : Nat) (t : Tgt) (own : List (Str × Nat)) (l : List α) (eD g : α → Dt) (hi : IXl E f tg iter G (l.map eD)) (hg : GX E (f.blk scope) tg t) (he : ∀ x ∈ l, ED E (f.blk scope) elt (t.set (eD x) (wipeK G (own.map (·.2)))) (g x))
    (hlen : l.length ≤ 1000000) (h2 : SX E f rest (G.set i (.dat (.lst (l.map g)))) N P) (hN : f.N[i]? = some y := by rfl) (hl : f.sc.names.lookup y = some .local := by rfl) (hk : f.sc.kind = .function := by rfl) (hln : (py.line == pos.line) = true := by rfl)
    (hsc : (scope.names.any fun (n, k) => n == y && (k == .local || k == .cell)) = false := by decide +kernel) (hf : ∀ x ∈ l, t.fits (eD x) := by exact fun _ _ => trivial) (hsl : ∀ j ∈ t.slots, j ∈ own.map (·.2) := by decide) (ok : blkC f.N f.sc scope own = true := by dsimp only [Fm.blk]; decide +kernel) (hs : ∀ (env : Env) x, foldedSetIterable iter env x = pure x := by intro _ _; rfl) :
    SX E f (.Assign [.Name y py] (.ListComp elt [⟨tg, iter, [], 0⟩] scope pos) spos :: rest) G N P := by
  refine sx_cons (s1_setLc i t own (fun l' => l' = l) eD (fun _ b => b = true) (fun x d => d = g x) (hi.weaken fun ds h => ⟨l, rfl, h⟩) hg (fun _ _ _ _ => tsx_nil) (fun l' hl x hx _ => (he x (hl ▸ hx)).weaken fun k h => ⟨g x, rfl, h⟩) (fun l' hl => by rw [hl]; exact hlen) hN hl hk hln hsc (fun l' hl x hx => hf x (hl ▸ hx)) hsl ok hs) ?_
  rintro G' ⟨l', ds, rfl, out, rfl⟩
  have e : ds = l'.map g := by rw [LcOut.det (p := fun _ => true) (g := g) out (fun _ _ _ h => h) (fun _ _ _ h => h), List.filter_eq_self.mpr (fun _ _ => rfl)]
  rw [e]
  exact h2
/-- all told, one test -/
theorem sx_setLcf {y : Str} {py spos : Pos} {ifc : Expr} (i : Nat) (t : Tgt) (own : List (Str × Nat)) (l : List α) (eD g : α → Dt) (pt : α → Bool) (hi : IXl E f tg iter G (l.map eD)) (hg : GX E (f.blk scope) tg t) (ht : ∀ x ∈ l, TD E (f.blk scope) ifc (t.set (eD x) (wipeK G (own.map (·.2)))) (pt x))
    (he : ∀ x ∈ l, pt x = true → ED E (f.blk scope) elt (t.set (eD x) (wipeK G (own.map (·.2)))) (g x))
    (hlen : l.length ≤ 1000000) (h2 : SX E f rest (G.set i (.dat (.lst ((l.filter pt).map g)))) N P) (hN : f.N[i]? = some y := by rfl) (hl : f.sc.names.lookup y = some .local := by rfl) (hk : f.sc.kind = .function := by rfl) (hln : (py.line == pos.line) = true := by rfl)
    (hsc : (scope.names.any fun (n, k) => n == y && (k == .local || k == .cell)) = false := by decide +kernel) (hf : ∀ x ∈ l, t.fits (eD x) := by exact fun _ _ => trivial) (hsl : ∀ j ∈ t.slots, j ∈ own.map (·.2) := by decide) (ok : blkC f.N f.sc scope own = true := by dsimp only [Fm.blk]; decide +kernel) (hs : ∀ (env : Env) x, foldedSetIterable iter env x = pure x := by intro _ _; rfl) :
    SX E f (.Assign [.Name y py] (.ListComp elt [⟨tg, iter, [ifc], 0⟩] scope pos) spos :: rest) G N P := by
  refine sx_cons (s1_setLc i t own (fun l' => l' = l) eD (fun x b => b = pt x) (fun x d => d = g x) (hi.weaken fun ds h => ⟨l, rfl, h⟩) hg (fun l' hl x hx => tsx_one (ht x (hl ▸ hx))) (fun l' hl x hx h => (he x (hl ▸ hx) h.symm).weaken fun k h => ⟨g x, rfl, h⟩) (fun l' hl => by rw [hl]; exact hlen) hN hl hk hln hsc (fun l' hl x hx => hf x (hl ▸ hx)) hsl ok hs) ?_
  rintro G' ⟨l', ds, rfl, out, rfl⟩
  have e : ds = (l'.filter pt).map g := LcOut.det (p := pt) (g := g) out (fun _ _ _ h => h) (fun _ _ _ h => h)
  rw [e]
  exact h2
end
/-! ### a def -/
theorem start_ty {hd : Hd} {F H : Hp} {N : List Str} {ks : List Ki} {vs : List V} (h : KsOk E.K E.C hd F H ks vs) (hl : vs.length ≤ N.length) : Ty E.K E.C hd F H (ks ++ List.replicate (N.length - ks.length) .un) (L2.start N vs) := by
  have el := h.length
  refine ⟨by unfold L2.start; rw [List.length_append, List.length_append, List.length_map, List.length_replicate, List.length_replicate, el], fun i k e => ?_⟩
  by_cases q : i < ks.length
  · rw [List.getElem?_append_left q] at e
    obtain ⟨v, h1, h2⟩ := h.get e
    refine .inr ⟨v, ?_, h2⟩
    unfold L2.start
    rw [List.getElem?_append_left (by rw [List.length_map, ← el]; exact q), List.getElem?_map, h1]
    rfl
  · rw [List.getElem?_append_right (by omega), List.getElem?_replicate] at e
    split at e
    · cases e
      exact .inl rfl
    · cases e
def noOwn (ks : List Ki) : Prop := ∀ k ∈ ks, ¬ OwnK k ∧ KeepK k
/-- a def keeps its promise R -/
theorem fn_ok {x qual : Str} {st : Stmt} {fa : Addr} {fd : FuncData} {N ps : List Str} {k : Nat} {S : List Ki → (Ki → Prop) → Prop} (F : Fun E.K x qual st fa fd) (sc : FnScope N ps (defScope st)) (hlen : ∀ ks P, S ks P → ks.length = ps.length) (hno : ∀ ks P, S ks P → noOwn ks)
    (hb : ∀ hd ks P, S ks P → SX E ⟨N, defScope st, fun _ => true, k, hd⟩ (defBody st) (ks ++ List.replicate (N.length - ks.length) .un) (fun _ => P (.dat .non)) (fun k _ => P k)) : FnOk E.P E.w E.K E.mg E.base CX0 (k + 1) fa fd ps (spG E.K E.C S) := by
  refine F.ok sc (fun vs H Q XE h => ?_) (fun cdv A outer s H vs Q Ex hr h => ?_)
  · obtain ⟨hd, F0, ks, P, hS, w, ko, _⟩ := h
    rw [← ko.length]
    exact hlen ks P hS
  · obtain ⟨hd, F0, ks, P, hS, w, ko, q⟩ := h
    refine ⟨_, hb hd ks P hS _ ⟨⟨E.C, rfl⟩, rfl, rfl, rfl, rfl, hr, rfl, sc.nd⟩, ?_⟩
    have hl : vs.length ≤ N.length := by
      have h1 := congrArg List.length sc.pre
      rw [List.length_take] at h1
      have h2 := ko.length
      have h3 := hlen ks P hS
      omega
    refine ⟨⟨H, F0, F0⟩, F0, ⟨Stp.refl w, start_ty ko hl, A8.Ex.refl _, fun i k' a e z => ?_, fun i k' e => ?_, fun i j k1 k2 a e e' z => ?_⟩, fun G' σ' F' H' hn o => ?_, fun k' v G' σ' F' H' pk o kv fr => q k' v F' H' pk o.st kv fr⟩
    · exact absurd z (no_at (hno ks P hS) e).1
    · exact (no_at (hno ks P hS) e).2
    · exact absurd z (no_at (hno ks P hS) e).1
    · exact q (.dat .non) .non F' H' hn o.st Rp.non Fr.dat
where
  no_at {ks : List Ki} {n i : Nat} {k : Ki} (h : noOwn ks) (e : (ks ++ List.replicate n .un)[i]? = some k) : ¬ OwnK k ∧ KeepK k := by
    have hm := List.mem_of_getElem? e
    rcases List.mem_append.mp hm with q | q
    · exact h k q
    · rw [(List.mem_replicate.mp q).2]
      exact ⟨fun z => z, True.intro⟩
end A8
set_option Elab.async false
set_option linter.all false
set_option maxRecDepth 100000
set_option maxHeartbeats 4000000
namespace A8
open PySem PySem.Spec PyProof.Rows L2

variable {E : En} {f : Fm} {G : List Ki} {e a b c : Expr} {es : List Expr} {pos p pos' : Pos} {R Ra Rb : Ki → Prop}

/-! ### ints: sets of them, one -/
abbrev ii (P : Int → Prop) : Ki → Prop := fun k => ∃ i, P i ∧ k = .dat (.int i)
abbrev EI (E : En) (f : Fm) (e : Expr) (G : List Ki) (P : Int → Prop) : Prop := EX E f e G (ii P)
theorem ED.ii {i : Int} (h : ED E f e G (.int i)) : EI E f e G (fun j => j = i) := h.weaken fun k q => ⟨i, rfl, q⟩
theorem EI.ed {i : Int} {P : Int → Prop} (h : EI E f e G P) (q : ∀ j, P j → j = i) : ED E f e G (.int i) := h.weaken fun k ⟨j, pj, e⟩ => by rw [e, q j pj]
theorem EI.imp {P P' : Int → Prop} (h : EI E f e G P) (q : ∀ j, P j → P' j) : EI E f e G P' := h.weaken fun k ⟨j, pj, e⟩ => ⟨j, q j pj, e⟩
theorem ko_int {hd : Hd} {F H : Hp} {i : Int} {x : V} (h : Ko E hd F H (.dat (.int i)) x) : x = .int i := by
  cases (show Rp E.K E.C F x (.int i) from h)
  rfl
theorem ko_bl {hd : Hd} {F H : Hp} {i : Bool} {x : V} (h : Ko E hd F H (.dat (.bl i)) x) : x = .bl i := by
  cases (show Rp E.K E.C F x (.bl i) from h)
  rfl
theorem rv_I {hd : Hd} {C : Int → Int → Prop} {g : Int → Int → V} {i j : Int} {d : Dt} {R : Ki → Prop} (hR : R (.dat d)) (hc : C i j) (hg : ∀ F, Rp E.K E.C F (g i j) d) : RV E hd (rI C g) (.dat (.int i)) (.dat (.int j)) R := by
  intro F H x y w kx ky Q q
  rw [ko_int kx, ko_int ky]
  exact ⟨i, j, rfl, rfl, hc, q _ _ F H hR (Stp.refl w) (hg F) Fr.dat⟩
theorem rv_I0 {hd : Hd} {g : Int → Int → V} {i j : Int} {d : Dt} {R : Ki → Prop} (hR : R (.dat d)) (hg : ∀ F, Rp E.K E.C F (g i j) d) : RV E hd (rI0 g) (.dat (.int i)) (.dat (.int j)) R := by
  intro F H x y w kx ky Q q
  rw [ko_int kx, ko_int ky]
  exact ⟨i, j, rfl, rfl, q _ _ F H hR (Stp.refl w) (hg F) Fr.dat⟩
theorem ei_add {P P' : Int → Prop} (ha : EI E f a G P) (hb : EI E f b G P') : EI E f (.BinOp a .Add b pos) G (fun n => ∃ i j, P i ∧ P' j ∧ n = i + j) :=
  ex_op (r := fun _ => rI0 fun i j => .int (i + j)) (fun X _ => op_add) ha hb fun ka kb ⟨i, pi, e1⟩ ⟨j, pj, e2⟩ => by
    rw [e1, e2]
    exact rv_I0 (d := .int (i + j)) ⟨_, ⟨i, j, pi, pj, rfl⟩, rfl⟩ fun F => .int _
theorem ei_sub {P P' : Int → Prop} (ha : EI E f a G P) (hb : EI E f b G P') : EI E f (.BinOp a .Sub b pos) G (fun n => ∃ i j, P i ∧ P' j ∧ n = i - j) :=
  ex_op (r := fun _ => rI0 fun i j => .int (i - j)) (fun X _ => op_sub) ha hb fun ka kb ⟨i, pi, e1⟩ ⟨j, pj, e2⟩ => by
    rw [e1, e2]
    exact rv_I0 (d := .int (i - j)) ⟨_, ⟨i, j, pi, pj, rfl⟩, rfl⟩ fun F => .int _
theorem ei_mul {P P' : Int → Prop} (ha : EI E f a G P) (hb : EI E f b G P') (hc : ∀ i j, P i → P' j → CMul i j) : EI E f (.BinOp a .Mult b pos) G (fun n => ∃ i j, P i ∧ P' j ∧ n = i * j) :=
  ex_op (r := fun _ => rI CMul fun i j => .int (i * j)) (fun X _ => op_mul) ha hb fun ka kb ⟨i, pi, e1⟩ ⟨j, pj, e2⟩ => by
    rw [e1, e2]
    exact rv_I (d := .int (i * j)) ⟨_, ⟨i, j, pi, pj, rfl⟩, rfl⟩ (hc i j pi pj) fun F => .int _
theorem ei_div {P P' : Int → Prop} (ha : EI E f a G P) (hb : EI E f b G P') (hc : ∀ i j, P i → P' j → CDiv i j) : EI E f (.BinOp a .FloorDiv b pos) G (fun n => ∃ i j, P i ∧ P' j ∧ n = i / j) :=
  ex_op (r := fun _ => rI CDiv fun i j => .int (i / j)) (fun X _ => op_fdiv) ha hb fun ka kb ⟨i, pi, e1⟩ ⟨j, pj, e2⟩ => by
    rw [e1, e2]
    exact rv_I (d := .int (i / j)) ⟨_, ⟨i, j, pi, pj, rfl⟩, rfl⟩ (hc i j pi pj) fun F => .int _
theorem ei_mod {P P' : Int → Prop} (ha : EI E f a G P) (hb : EI E f b G P') (hc : ∀ i j, P i → P' j → 0 < j) : EI E f (.BinOp a .Mod b pos) G (fun n => ∃ i j, P i ∧ P' j ∧ n = i % j) :=
  ex_op (r := fun _ => rI (fun _ j => 0 < j) fun i j => .int (i % j)) (fun X _ => op_mod) ha hb fun ka kb ⟨i, pi, e1⟩ ⟨j, pj, e2⟩ => by
    rw [e1, e2]
    exact rv_I (d := .int (i % j)) ⟨_, ⟨i, j, pi, pj, rfl⟩, rfl⟩ (hc i j pi pj) fun F => .int _
theorem ed_add {i j : Int} (ha : ED E f a G (.int i)) (hb : ED E f b G (.int j)) : ED E f (.BinOp a .Add b pos) G (.int (i + j)) := (ei_add ha.ii hb.ii).ed fun n ⟨x, y, hx, hy, e⟩ => by rw [e, hx, hy]
theorem ed_sub {i j : Int} (ha : ED E f a G (.int i)) (hb : ED E f b G (.int j)) : ED E f (.BinOp a .Sub b pos) G (.int (i - j)) := (ei_sub ha.ii hb.ii).ed fun n ⟨x, y, hx, hy, e⟩ => by rw [e, hx, hy]
theorem ed_mul {i j : Int} (ha : ED E f a G (.int i)) (hb : ED E f b G (.int j)) (hc : CMul i j) : ED E f (.BinOp a .Mult b pos) G (.int (i * j)) := (ei_mul ha.ii hb.ii fun x y hx hy => by rw [hx, hy]; exact hc).ed fun n ⟨x, y, hx, hy, e⟩ => by rw [e, hx, hy]
theorem ed_div {i j : Int} (ha : ED E f a G (.int i)) (hb : ED E f b G (.int j)) (hc : CDiv i j) : ED E f (.BinOp a .FloorDiv b pos) G (.int (i / j)) := (ei_div ha.ii hb.ii fun x y hx hy => by rw [hx, hy]; exact hc).ed fun n ⟨x, y, hx, hy, e⟩ => by rw [e, hx, hy]
theorem ed_mod {i j : Int} (ha : ED E f a G (.int i)) (hb : ED E f b G (.int j)) (hc : 0 < j) : ED E f (.BinOp a .Mod b pos) G (.int (i % j)) := (ei_mod ha.ii hb.ii fun x y hx hy => by rw [hy]; exact hc).ed fun n ⟨x, y, hx, hy, e⟩ => by rw [e, hx, hy]
theorem ed_neg {i : Int} (ha : ED E f a G (.int i)) : ED E f (.UnaryOp .USub a pos) G (.int (-i)) := fun X hX => by
  refine pe_w (pe_un un_neg (ha X hX)) ?_
  rintro σ H Q ⟨F, w, t, q⟩
  refine ⟨F, w, t, ?_⟩
  rintro k v F1 H1 rfl s kv -
  rw [ko_int kv]
  exact ⟨i, rfl, q (.dat (.int (-i))) _ F1 H1 rfl s (Rp.int _) Fr.dat⟩

/-! ### comparisons of ints -/
theorem rv_cmp {hd : Hd} {g : Int → Int → Bool} {i j : Int} {R : Bool → Prop} (h : R (g i j)) : RV E hd (rI0 fun i j => .bl (g i j)) (.dat (.int i)) (.dat (.int j)) (bis R) :=
  rv_I0 (g := fun i j => .bl (g i j)) (d := .bl (g i j)) ⟨_, h, rfl⟩ fun F => .bl _
theorem ko_scal {hd : Hd} {F H : Hp} {i j : Int} : scal (V.int i) (V.int j) = true := rfl
section
variable {P P' : Int → Prop}
theorem ti_lt (ha : EI E f a G P) (hb : EI E f b G P') : TX E f (.Compare a [.Lt] [b] pos) G (fun c => ∃ i j, P i ∧ P' j ∧ c = decide (i < j)) :=
  tx_cmp (r := fun _ => rI0 fun i j => .bl (decide (i < j))) (fun X _ => op_lt) ha hb (fun ka kb ⟨i, pi, e1⟩ ⟨j, pj, e2⟩ => by rw [e1, e2]; exact rv_cmp ⟨i, j, pi, pj, rfl⟩) (nomark _)
theorem ti_le (ha : EI E f a G P) (hb : EI E f b G P') : TX E f (.Compare a [.LtE] [b] pos) G (fun c => ∃ i j, P i ∧ P' j ∧ c = decide (i ≤ j)) :=
  tx_cmp (r := fun _ => rI0 fun i j => .bl (decide (i ≤ j))) (fun X _ => op_le) ha hb (fun ka kb ⟨i, pi, e1⟩ ⟨j, pj, e2⟩ => by rw [e1, e2]; exact rv_cmp ⟨i, j, pi, pj, rfl⟩) (nomark _)
theorem ti_gt (ha : EI E f a G P) (hb : EI E f b G P') : TX E f (.Compare a [.Gt] [b] pos) G (fun c => ∃ i j, P i ∧ P' j ∧ c = decide (j < i)) :=
  tx_cmp (r := fun _ => rI0 fun i j => .bl (decide (j < i))) (fun X _ => op_gt) ha hb (fun ka kb ⟨i, pi, e1⟩ ⟨j, pj, e2⟩ => by rw [e1, e2]; exact rv_cmp ⟨i, j, pi, pj, rfl⟩) (nomark _)
theorem ti_ge (ha : EI E f a G P) (hb : EI E f b G P') : TX E f (.Compare a [.GtE] [b] pos) G (fun c => ∃ i j, P i ∧ P' j ∧ c = decide (j ≤ i)) :=
  tx_cmp (r := fun _ => rI0 fun i j => .bl (decide (j ≤ i))) (fun X _ => op_ge) ha hb (fun ka kb ⟨i, pi, e1⟩ ⟨j, pj, e2⟩ => by rw [e1, e2]; exact rv_cmp ⟨i, j, pi, pj, rfl⟩) (nomark _)
theorem rv_eqI {hd : Hd} {i j : Int} {R : Bool → Prop} (h : R (decide (i = j))) : RV E hd rEq (.dat (.int i)) (.dat (.int j)) (bis R) := by
  intro F H x y w kx ky Q q
  rw [ko_int kx, ko_int ky]
  have e : decide (V.int i = V.int j) = decide (i = j) := by rw [Bool.eq_iff_iff]; simp
  refine ⟨rfl, q (.dat (.bl (decide (i = j)))) _ F H ⟨_, h, rfl⟩ (Stp.refl w) (by rw [e]; exact Rp.bl _) Fr.dat⟩
theorem rv_neI {hd : Hd} {i j : Int} {R : Bool → Prop} (h : R (!decide (i = j))) : RV E hd rNe (.dat (.int i)) (.dat (.int j)) (bis R) := by
  intro F H x y w kx ky Q q
  rw [ko_int kx, ko_int ky]
  have e : decide (V.int i = V.int j) = decide (i = j) := by rw [Bool.eq_iff_iff]; simp
  refine ⟨rfl, q (.dat (.bl (!decide (i = j)))) _ F H ⟨_, h, rfl⟩ (Stp.refl w) (by rw [e]; exact Rp.bl _) Fr.dat⟩
theorem ti_eq (ha : EI E f a G P) (hb : EI E f b G P') : TX E f (.Compare a [.Eq] [b] pos) G (fun c => ∃ i j, P i ∧ P' j ∧ c = decide (i = j)) :=
  tx_cmp (r := fun _ => rEq) (fun X _ => op_eq) ha hb (fun ka kb ⟨i, pi, e1⟩ ⟨j, pj, e2⟩ => by rw [e1, e2]; exact rv_eqI ⟨i, j, pi, pj, rfl⟩) (nomark _)
theorem ti_ne (ha : EI E f a G P) (hb : EI E f b G P') : TX E f (.Compare a [.NotEq] [b] pos) G (fun c => ∃ i j, P i ∧ P' j ∧ c = !decide (i = j)) :=
  tx_cmp (r := fun _ => rNe) (fun X _ => op_ne) ha hb (fun ka kb ⟨i, pi, e1⟩ ⟨j, pj, e2⟩ => by rw [e1, e2]; exact rv_neI ⟨i, j, pi, pj, rfl⟩) (nomark _)
end
theorem TX.td {R : Bool → Prop} {b : Bool} (h : TX E f e G R) (q : ∀ c, R c → c = b) : TD E f e G b := h.weaken q
theorem EX.edb {R : Bool → Prop} {b : Bool} (h : EX E f e G (bis R)) (q : ∀ c, R c → c = b) : ED E f e G (.bl b) := h.weaken fun k ⟨c, rc, e⟩ => by rw [e, q c rc]
section
variable {i j : Int}
theorem td_lt (ha : ED E f a G (.int i)) (hb : ED E f b G (.int j)) : TD E f (.Compare a [.Lt] [b] pos) G (decide (i < j)) := (ti_lt ha.ii hb.ii).td fun c ⟨x, y, hx, hy, e⟩ => by rw [e, hx, hy]
theorem td_le (ha : ED E f a G (.int i)) (hb : ED E f b G (.int j)) : TD E f (.Compare a [.LtE] [b] pos) G (decide (i ≤ j)) := (ti_le ha.ii hb.ii).td fun c ⟨x, y, hx, hy, e⟩ => by rw [e, hx, hy]
theorem td_gt (ha : ED E f a G (.int i)) (hb : ED E f b G (.int j)) : TD E f (.Compare a [.Gt] [b] pos) G (decide (j < i)) := (ti_gt ha.ii hb.ii).td fun c ⟨x, y, hx, hy, e⟩ => by rw [e, hx, hy]
theorem td_ge (ha : ED E f a G (.int i)) (hb : ED E f b G (.int j)) : TD E f (.Compare a [.GtE] [b] pos) G (decide (j ≤ i)) := (ti_ge ha.ii hb.ii).td fun c ⟨x, y, hx, hy, e⟩ => by rw [e, hx, hy]
theorem td_eq (ha : ED E f a G (.int i)) (hb : ED E f b G (.int j)) : TD E f (.Compare a [.Eq] [b] pos) G (decide (i = j)) := (ti_eq ha.ii hb.ii).td fun c ⟨x, y, hx, hy, e⟩ => by rw [e, hx, hy]
theorem td_ne (ha : ED E f a G (.int i)) (hb : ED E f b G (.int j)) : TD E f (.Compare a [.NotEq] [b] pos) G (!decide (i = j)) := (ti_ne ha.ii hb.ii).td fun c ⟨x, y, hx, hy, e⟩ => by rw [e, hx, hy]
theorem ed_lt (ha : ED E f a G (.int i)) (hb : ED E f b G (.int j)) : ED E f (.Compare a [.Lt] [b] pos) G (.bl (decide (i < j))) :=
  (ex_cmp (r := fun _ => rI0 fun i j => .bl (decide (i < j))) (R := bis fun c => c = decide (i < j)) (fun X _ => op_lt) ha hb (fun ka kb e1 e2 => by rw [e1, e2]; exact rv_cmp rfl) (nomark _)).edb fun _ h => h
theorem ed_gt (ha : ED E f a G (.int i)) (hb : ED E f b G (.int j)) : ED E f (.Compare a [.Gt] [b] pos) G (.bl (decide (j < i))) :=
  (ex_cmp (r := fun _ => rI0 fun i j => .bl (decide (j < i))) (R := bis fun c => c = decide (j < i)) (fun X _ => op_gt) ha hb (fun ka kb e1 e2 => by rw [e1, e2]; exact rv_cmp rfl) (nomark _)).edb fun _ h => h
theorem ed_eq (ha : ED E f a G (.int i)) (hb : ED E f b G (.int j)) : ED E f (.Compare a [.Eq] [b] pos) G (.bl (decide (i = j))) :=
  (ex_cmp (r := fun _ => rEq) (R := bis fun c => c = decide (i = j)) (fun X _ => op_eq) ha hb (fun ka kb e1 e2 => by rw [e1, e2]; exact rv_eqI rfl) (nomark _)).edb fun _ h => h
theorem ed_eqB {x y : Bool} (ha : ED E f a G (.bl x)) (hb : ED E f b G (.bl y)) : ED E f (.Compare a [.Eq] [b] pos) G (.bl (decide (x = y))) :=
  (ex_cmp (r := fun _ => rEq) (R := bis fun c => c = decide (x = y)) (fun X _ => op_eq) ha hb (fun ka kb e1 e2 => by
    rw [e1, e2]
    intro F H v u w kx ky Q q
    rw [ko_bl kx, ko_bl ky]
    have e : decide (V.bl x = V.bl y) = decide (x = y) := by rw [Bool.eq_iff_iff]; simp
    exact ⟨rfl, q (.dat (.bl (decide (x = y)))) _ F H ⟨_, rfl, rfl⟩ (Stp.refl w) (by rw [e]; exact Rp.bl _) Fr.dat⟩) (nomark _)).edb fun _ h => h
theorem td_neB {x y : Bool} (ha : ED E f a G (.bl x)) (hb : ED E f b G (.bl y)) : TD E f (.Compare a [.NotEq] [b] pos) G (!decide (x = y)) :=
  tx_cmp (r := fun _ => rNe) (fun X _ => op_ne) ha hb (fun ka kb e1 e2 => by
    rw [e1, e2]
    intro F H v u w kx ky Q q
    rw [ko_bl kx, ko_bl ky]
    have e : decide (V.bl x = V.bl y) = decide (x = y) := by rw [Bool.eq_iff_iff]; simp
    exact ⟨rfl, q (.dat (.bl (!decide (x = y)))) _ F H ⟨_, rfl, rfl⟩ (Stp.refl w) (by rw [e]; exact Rp.bl _) Fr.dat⟩) (nomark _)
end
/-! is None, is True .. -/
def Dt.isNon : Dt → Bool
  | .non => true
  | _ => false
theorem Rp.isNon {F : Hp} {v : V} {d : Dt} (h : Rp E.K E.C F v d) : decide (v = .non) = d.isNon := by cases h <;> rfl
theorem ed_isN {d : Dt} {j pos'} (ha : ED E f a G d) : ED E f (.Compare a [.Is] [.Constant .none j pos'] pos) G (.bl d.isNon) := fun X hX => by
  refine pe_w (pe_cmp (pc_isN (ha X hX)) rfl) ?_
  rintro σ H Q ⟨F, w, t, q⟩
  refine ⟨F, w, t, ?_⟩
  rintro k v F1 H1 rfl s kv -
  rw [Rp.isNon kv]
  exact q (.dat (.bl d.isNon)) _ F1 H1 rfl s (Rp.bl _) Fr.dat
theorem ed_notN {d : Dt} {j pos'} (ha : ED E f a G d) : ED E f (.Compare a [.IsNot] [.Constant .none j pos'] pos) G (.bl (!d.isNon)) := fun X hX => by
  refine pe_w (pe_cmp (pc_notN (ha X hX)) rfl) ?_
  rintro σ H Q ⟨F, w, t, q⟩
  refine ⟨F, w, t, ?_⟩
  rintro k v F1 H1 rfl s kv -
  rw [Rp.isNon kv]
  exact q (.dat (.bl (!d.isNon))) _ F1 H1 rfl s (Rp.bl _) Fr.dat
theorem td_isN {d : Dt} {j pos'} (ha : ED E f a G d) : TD E f (.Compare a [.Is] [.Constant .none j pos'] pos) G d.isNon := fun X hX => by
  refine pt_w (pt_cmp (pc_isN (ha X hX)) rfl) ?_
  rintro σ H Q ⟨F, w, t, q⟩
  refine ⟨F, w, t, ?_⟩
  rintro k v F1 H1 rfl s kv -
  rw [Rp.isNon kv]
  exact ⟨_, rfl, q _ F1 H1 rfl s⟩
theorem td_notN {d : Dt} {j pos'} (ha : ED E f a G d) : TD E f (.Compare a [.IsNot] [.Constant .none j pos'] pos) G (!d.isNon) := fun X hX => by
  refine pt_w (pt_cmp (pc_notN (ha X hX)) rfl) ?_
  rintro σ H Q ⟨F, w, t, q⟩
  refine ⟨F, w, t, ?_⟩
  rintro k v F1 H1 rfl s kv -
  rw [Rp.isNon kv]
  exact ⟨_, rfl, q _ F1 H1 rfl s⟩
/-- x is not True, x a truth value -/
theorem td_isnotB {x y : Bool} (ha : ED E f a G (.bl x)) (hb : ED E f b G (.bl y)) : TD E f (.Compare a [.IsNot] [b] pos) G (!decide (x = y)) :=
  tx_cmp (r := fun _ => rNotB) (fun X _ => op_notBl) ha hb (fun ka kb e1 e2 => by
    rw [e1, e2]
    intro F H v u w kx ky Q q
    rw [ko_bl kx, ko_bl ky]
    exact ⟨x, y, rfl, rfl, q (.dat (.bl (!decide (x = y)))) _ F H ⟨_, rfl, rfl⟩ (Stp.refl w) (Rp.bl _) Fr.dat⟩) (nomark _)
/-- a <= b <= c, a < b <= c .. of ints as a value and a test -/
theorem ed_chain_ll {i j k : Int} (ha : ED E f a G (.int i)) (hb : ED E f b G (.int j)) (hc : ED E f c G (.int k)) (hm : lastMarks [.LtE, .LtE] [b, c] = false := by with_unfolding_all rfl) : ED E f (.Compare a [.LtE, .LtE] [b, c] pos) G (.bl (decide (i ≤ j ∧ j ≤ k))) := fun X hX => by
  refine pe_w (pe_chain op_le op_le (ha X hX) (hb X hX) (hc X hX) hm) ?_
  rintro σ H Q ⟨F, w, t, q⟩
  refine ⟨F, w, t, ?_⟩
  rintro k1 v1 F1 H1 rfl s1 kv1 -
  refine ⟨F1, s1.wd, t.mono s1, ?_⟩
  rintro k2 v2 F2 H2 rfl s2 kv2 -
  rw [ko_int kv1, ko_int kv2]
  refine ⟨i, j, rfl, rfl, _, rfl, ?_⟩
  by_cases h : i ≤ j
  · rw [decide_eq_true h]
    refine iteT ⟨F2, s2.wd, (t.mono s1).mono s2, ?_⟩
    rintro k3 v3 F3 H3 rfl s3 kv3 -
    rw [ko_int kv3]
    refine ⟨j, k, rfl, rfl, ?_⟩
    have e : decide (i ≤ j ∧ j ≤ k) = decide (j ≤ k) := by simp [h]
    exact q (.dat (.bl (decide (i ≤ j ∧ j ≤ k)))) _ F3 H3 rfl ((s1.trans s2).trans s3) (by rw [e]; exact Rp.bl _) Fr.dat
  · rw [decide_eq_false h]
    have e : decide (i ≤ j ∧ j ≤ k) = false := by simp [h]
    exact iteF (q (.dat (.bl (decide (i ≤ j ∧ j ≤ k)))) _ F2 H2 rfl (s1.trans s2) (by rw [e]; exact Rp.bl _) Fr.dat)
theorem ed_chain_lt {i j k : Int} (ha : ED E f a G (.int i)) (hb : ED E f b G (.int j)) (hc : ED E f c G (.int k)) (hm : lastMarks [.LtE, .Lt] [b, c] = false := by with_unfolding_all rfl) : ED E f (.Compare a [.LtE, .Lt] [b, c] pos) G (.bl (decide (i ≤ j ∧ j < k))) := fun X hX => by
  refine pe_w (pe_chain op_le op_lt (ha X hX) (hb X hX) (hc X hX) hm) ?_
  rintro σ H Q ⟨F, w, t, q⟩
  refine ⟨F, w, t, ?_⟩
  rintro k1 v1 F1 H1 rfl s1 kv1 -
  refine ⟨F1, s1.wd, t.mono s1, ?_⟩
  rintro k2 v2 F2 H2 rfl s2 kv2 -
  rw [ko_int kv1, ko_int kv2]
  refine ⟨i, j, rfl, rfl, _, rfl, ?_⟩
  by_cases h : i ≤ j
  · rw [decide_eq_true h]
    refine iteT ⟨F2, s2.wd, (t.mono s1).mono s2, ?_⟩
    rintro k3 v3 F3 H3 rfl s3 kv3 -
    rw [ko_int kv3]
    refine ⟨j, k, rfl, rfl, ?_⟩
    have e : decide (i ≤ j ∧ j < k) = decide (j < k) := by simp [h]
    exact q (.dat (.bl (decide (i ≤ j ∧ j < k)))) _ F3 H3 rfl ((s1.trans s2).trans s3) (by rw [e]; exact Rp.bl _) Fr.dat
  · rw [decide_eq_false h]
    have e : decide (i ≤ j ∧ j < k) = false := by simp [h]
    exact iteF (q (.dat (.bl (decide (i ≤ j ∧ j < k)))) _ F2 H2 rfl (s1.trans s2) (by rw [e]; exact Rp.bl _) Fr.dat)
/-- a <= b <= c as a test -/
theorem td_chain_ll {i j k : Int} (ha : ED E f a G (.int i)) (hb : ED E f b G (.int j)) (hc : ED E f c G (.int k)) (hm : lastMarks [.LtE, .LtE] [b, c] = false := by with_unfolding_all rfl) : TD E f (.Compare a [.LtE, .LtE] [b, c] pos) G (decide (i ≤ j ∧ j ≤ k)) := fun X hX => by
  refine pt_w (pt_chain op_le op_le (ha X hX) (hb X hX) (hc X hX) hm) ?_
  rintro σ H Q ⟨F, w, t, q⟩
  refine ⟨F, w, t, ?_⟩
  rintro k1 v1 F1 H1 rfl s1 kv1 -
  refine ⟨F1, s1.wd, t.mono s1, ?_⟩
  rintro k2 v2 F2 H2 rfl s2 kv2 -
  rw [ko_int kv1, ko_int kv2]
  refine ⟨i, j, rfl, rfl, _, rfl, ?_⟩
  by_cases h : i ≤ j
  · rw [decide_eq_true h]
    refine iteT ⟨F2, s2.wd, (t.mono s1).mono s2, ?_⟩
    rintro k3 v3 F3 H3 rfl s3 kv3 -
    rw [ko_int kv3]
    refine ⟨j, k, rfl, rfl, ?_⟩
    have e : decide (i ≤ j ∧ j ≤ k) = decide (j ≤ k) := by simp [h]
    exact ⟨_, rfl, q _ F3 H3 e.symm ((s1.trans s2).trans s3)⟩
  · rw [decide_eq_false h]
    have e : decide (i ≤ j ∧ j ≤ k) = false := by simp [h]
    exact iteF ⟨_, rfl, q _ F2 H2 e.symm (s1.trans s2)⟩

/-! ### built-in classes, isinstance, len, all, any, sum -/
structure Bt (mg : Str → Option Value) : Prop where
  len : mg "len" = none
  isinstance : mg "isinstance" = none
  int : mg "int" = none
  bool : mg "bool" = none
  tuple : mg "tuple" = none
  list : mg "list" = none
  all : mg "all" = none
  any : mg "any" = none
  sum : mg "sum" = none
  range : mg "range" = none
  enumerate : mg "enumerate" = none
  zip : mg "zip" = none
  abs : mg "abs" = none
  min : mg "min" = none
  max : mg "max" = none
  sorted : mg "sorted" = none
  set : mg "set" = none
variable (B : Bt E.mg)
theorem ex_ty {x : Str} {n : String} (hm : E.mg x = none) (hv : bootBuiltins x = some (.type n) := by decide +kernel) (hg : GlS f.sc x := by rfl) (hn : x ≠ "__name__" := by decide) (hd : (x == ("__debug__" : Str)) = false := by decide) : ED E f (.Name x pos) G (.ty n) := fun X hX => by
  have g := hX.gl hg
  obtain ⟨C, rfl⟩ := hX.en
  refine pe_w (pe_bltn (v := .ty n) g hm hv rfl hn hd) ?_
  rintro σ H Q ⟨F, w, t, q⟩
  exact q (.dat (.ty n)) _ F H rfl (Stp.refl w) (Rp.ty n) Fr.dat
/-- the class of a datum -/
def Dt.cls : Dt → String
  | .non => "NoneType"
  | .bl _ => "bool"
  | .int _ => "int"
  | .str _ => "str"
  | .tup _ => "tuple"
  | .tuq _ => "tuple"
  | .lst _ => "list"
  | .lsq _ => "list"
  | .dic => "dict"
  | _ => ""
theorem Rp.tyx {F H : Hp} {v : V} {d : Dt} (ex : Ex F H) (h : Rp E.K E.C F v d) (hc : d.cls ≠ "") : TyX E.K H v (.type d.cls) := by
  cases h with
  | non => exact .base .non
  | bl b => exact .base (.bl b)
  | int b => exact .base (.int b)
  | str b => exact .base (.str b)
  | tup h _ => exact .base (.tup (ex _ _ h))
  | tuq h _ =>
    rcases ex_t ex h with (h | ⟨o, h⟩) | ⟨o, its, n, h, c, _⟩
    · exact .base (.tup h)
    · exact .fTuple h
    · exact .kTuple h c
  | lst h _ => exact .base (.lst (ex _ _ h))
  | lsq h _ =>
    rcases ex_l ex h with (h | ⟨o, h⟩) | ⟨o, its, n, h, c, _⟩
    · exact .base (.lst h)
    · exact .base (.frz h)
    · exact .kList h c
  | dic h => exact .base (.dK (ex _ _ h))
  | _ => exact absurd rfl hc
theorem rc_isi {hd : Hd} {d : Dt} {n : String} {r : Bool} (hc : d.cls ≠ "") (hk : kitB d.cls n = some r) : RC E hd (rIsi E.K) [.dat d, .dat (.ty n)] (one (.bl r)) := by
  intro F H vs w ks Q q
  cases ks with
  | cons k1 ks =>
    cases ks with
    | cons k2 ks =>
      cases ks
      cases (show Rp E.K E.C F _ (.ty n) from k2)
      exact ⟨_, _, _, _, r, rfl, .ty n, Rp.tyx w.ex k1 hc, kit_ty hk, q (.dat (.bl r)) _ F H rfl (Stp.refl w) (Rp.bl r) Fr.dat⟩
theorem ed_isi {x y : Str} {d : Dt} {n : String} {r : Bool} {p2 p3 : Pos} (hb : x = "isinstance") (hm : E.mg x = none) (ha : ED E f a G d) (hc : d.cls ≠ "") (hm2 : E.mg y = none) (hk : kitB d.cls n = some r) (hv : bootBuiltins y = some (.type n) := by decide +kernel) (hg : GlS f.sc y := by rfl) (hn : y ≠ "__name__" := by decide) (hdb : (y == ("__debug__" : Str)) = false := by decide) (hg2 : GlS f.sc "isinstance" := by rfl)
    (hs : ∀ env : Env, starEach [a, .Name y p2] env = (false, eval a env) :: starEach [.Name y p2] env := by intro _; rfl) : ED E f (.Call (.Name x p3) [a, .Name y p2] [] pos) G (.bl r) := by
  subst hb
  exact ex_callB (r := rIsi) (fun X _ _ => call_isi) hm (ad_cons ha (ad_cons (ex_ty hm2 hv hg hn hdb) ad_nil) hs) (fun ks q => by rw [q]; exact rc_isi hc hk) (by decide +kernel) hg2 (by decide) (by decide) hs
theorem ctup {l : List Dt} : (Dt.tup l).cls ≠ "" := by simp [Dt.cls]
theorem ctuq {l : List Dt} : (Dt.tuq l).cls ≠ "" := by simp [Dt.cls]
theorem clst {l : List Dt} : (Dt.lst l).cls ≠ "" := by simp [Dt.cls]
theorem cint {i : Int} : (Dt.int i).cls ≠ "" := by simp [Dt.cls]
theorem cbl {i : Bool} : (Dt.bl i).cls ≠ "" := by simp [Dt.cls]
def isaC (c n : String) : Bool := decide (c = n) || (decide (c = "bool") && decide (n = "int"))
def Dt.isa (d : Dt) (n : String) : Bool := isaC d.cls n
theorem kit_all : ∀ c ∈ ["NoneType", "bool", "int", "str", "tuple", "list", "dict"], ∀ n ∈ ["int", "bool", "tuple", "list"], kitB c n = some (isaC c n) := by decide +kernel
theorem Dt.cls_in {d : Dt} (hc : d.cls ≠ "") : d.cls ∈ ["NoneType", "bool", "int", "str", "tuple", "list", "dict"] := by
  cases d <;> first | exact absurd rfl hc | simp [Dt.cls]
theorem kit_isa {d : Dt} {n : String} (hc : d.cls ≠ "") (hn : n ∈ ["int", "bool", "tuple", "list"]) : kitB d.cls n = some (d.isa n) := kit_all _ (Dt.cls_in hc) n hn
theorem ed_isa {y : Str} {d : Dt} {n : String} {p2 p3 : Pos} (B : Bt E.mg) (ha : ED E f a G d) (hc : d.cls ≠ "") (hm2 : E.mg y = none) (hn' : n ∈ ["int", "bool", "tuple", "list"]) (hv : bootBuiltins y = some (.type n) := by decide +kernel) (hg : GlS f.sc y := by rfl) (hn : y ≠ "__name__" := by decide) (hdb : (y == ("__debug__" : Str)) = false := by decide) (hg2 : GlS f.sc "isinstance" := by rfl)
    (hs : ∀ env : Env, starEach [a, .Name y p2] env = (false, eval a env) :: starEach [.Name y p2] env := by intro _; rfl) : ED E f (.Call (.Name "isinstance" p3) [a, .Name y p2] [] pos) G (.bl (d.isa n)) :=
  ed_isi rfl B.isinstance ha hc hm2 (kit_isa hc hn') hv hg hn hdb hg2 hs
theorem ed_isaInt {d : Dt} {p2 p3 : Pos} (B : Bt E.mg) (ha : ED E f a G d) (hc : d.cls ≠ "") (hg : GlS f.sc "int" := by rfl) (hg2 : GlS f.sc "isinstance" := by rfl) (hs : ∀ env : Env, starEach [a, .Name "int" p2] env = (false, eval a env) :: starEach [.Name "int" p2] env := by intro _; rfl) :
    ED E f (.Call (.Name "isinstance" p3) [a, .Name "int" p2] [] pos) G (.bl (d.isa "int")) := ed_isa B ha hc B.int (by decide) (by decide +kernel) hg (by decide) (by decide) hg2 hs
theorem ed_isaBool {d : Dt} {p2 p3 : Pos} (B : Bt E.mg) (ha : ED E f a G d) (hc : d.cls ≠ "") (hg : GlS f.sc "bool" := by rfl) (hg2 : GlS f.sc "isinstance" := by rfl) (hs : ∀ env : Env, starEach [a, .Name "bool" p2] env = (false, eval a env) :: starEach [.Name "bool" p2] env := by intro _; rfl) :
    ED E f (.Call (.Name "isinstance" p3) [a, .Name "bool" p2] [] pos) G (.bl (d.isa "bool")) := ed_isa B ha hc B.bool (by decide) (by decide +kernel) hg (by decide) (by decide) hg2 hs
theorem ed_isaTup {d : Dt} {p2 p3 : Pos} (B : Bt E.mg) (ha : ED E f a G d) (hc : d.cls ≠ "") (hg : GlS f.sc "tuple" := by rfl) (hg2 : GlS f.sc "isinstance" := by rfl) (hs : ∀ env : Env, starEach [a, .Name "tuple" p2] env = (false, eval a env) :: starEach [.Name "tuple" p2] env := by intro _; rfl) :
    ED E f (.Call (.Name "isinstance" p3) [a, .Name "tuple" p2] [] pos) G (.bl (d.isa "tuple")) := ed_isa B ha hc B.tuple (by decide) (by decide +kernel) hg (by decide) (by decide) hg2 hs
/-- the items of a sequence -/
inductive Seq : Dt → List Dt → Prop where
  | tup (l : List Dt) : Seq (.tup l) l
  | tuq (l : List Dt) : Seq (.tuq l) l
  | lst (l : List Dt) : Seq (.lst l) l
  | lsq (l : List Dt) : Seq (.lsq l) l
theorem Seq.at {F H : Hp} {v : V} {d : Dt} {l : List Dt} (s : Seq d l) (ex : Ex F H) (h : Rp E.K E.C F v d) : ∃ a xs, v = .ref a ∧ (SqL E.K H a xs ∨ SqT E.K H a xs) ∧ RpL E.K E.C F xs l := by
  cases s with
  | tup l => cases h with | tup h r => exact ⟨_, _, rfl, .inr (SqT.of (ex _ _ h)), r⟩
  | tuq l => cases h with | tuq h r => exact ⟨_, _, rfl, .inr (ex_t ex h), r⟩
  | lst l => cases h with | lst h r => exact ⟨_, _, rfl, .inl (SqL.of (ex _ _ h)), r⟩
  | lsq l => cases h with | lsq h r => exact ⟨_, _, rfl, .inl (ex_l ex h), r⟩
theorem rc_len {hd : Hd} {k : Ki} {l : List Dt} (h : ∀ F H v, Wd hd F H → Ko E hd F H k v → ∃ a xs, v = .ref a ∧ (SqL E.K H a xs ∨ SqT E.K H a xs) ∧ RpL E.K E.C F xs l) :
    RC E hd (fun xs H Q => ∃ p ys, xs = [.ref p] ∧ (SqL E.K H p ys ∨ SqT E.K H p ys) ∧ Q (.int ys.length) H) [k] (one (.int l.length)) := by
  intro F H vs w ks Q q
  cases ks with
  | cons k1 ks =>
    cases ks
    obtain ⟨a, xs, rfl, hs, r⟩ := h F H _ w k1
    refine ⟨a, xs, rfl, hs, ?_⟩
    rw [r.length]
    exact q (.dat (.int l.length)) _ F H rfl (Stp.refl w) (Rp.int _) Fr.dat
include B
theorem ex_len {k : Ki} {l : List Dt} (ha : EX E f a G (fun k' => k' = k)) (h : ∀ F H v, Wd f.hd F H → Ko E f.hd F H k v → ∃ a xs, v = .ref a ∧ (SqL E.K H a xs ∨ SqT E.K H a xs) ∧ RpL E.K E.C F xs l) (hg : GlS f.sc "len" := by rfl)
    (hs : ∀ env : Env, starEach [a] env = (false, eval a env) :: starEach [] env := by intro _; rfl) : ED E f (.Call (.Name "len" p) [a] [] pos) G (.int l.length) :=
  ex_callB (r := fun K xs H Q => ∃ p ys, xs = [.ref p] ∧ (SqL K H p ys ∨ SqT K H p ys) ∧ Q (.int ys.length) H) (fun X _ _ => call_len_seq) B.len (ad_k ha ad_nil hs) (fun ks q => by rw [q]; exact rc_len h) PySem.boot_len hg (by decide) (by decide) hs
theorem ed_len {d : Dt} {l : List Dt} (ha : ED E f a G d) (s : Seq d l) (hg : GlS f.sc "len" := by rfl) (hs : ∀ env : Env, starEach [a] env = (false, eval a env) :: starEach [] env := by intro _; rfl) : ED E f (.Call (.Name "len" p) [a] [] pos) G (.int l.length) :=
  ex_len B ha (fun F H v w k => s.at w.ex k) hg hs
theorem ed_lenV {l : List Dt} (ha : EX E f a G (fun k => k = .vl l)) (hg : GlS f.sc "len" := by rfl) (hs : ∀ env : Env, starEach [a] env = (false, eval a env) :: starEach [] env := by intro _; rfl) : ED E f (.Call (.Name "len" p) [a] [] pos) G (.int l.length) :=
  ex_len B ha (fun F H v w ⟨a, xs, e, h, r, _⟩ => ⟨a, xs, e, .inl (SqL.of h), r⟩) hg hs
theorem ed_all {bs : List Bool} (ha : ED E f a G (.lst (bs.map Dt.bl))) (hg : GlS f.sc "all" := by rfl) (hs : ∀ env : Env, starEach [a] env = (false, eval a env) :: starEach [] env := by intro _; rfl) : ED E f (.Call (.Name "all" p) [a] [] pos) G (.bl (bs.all id)) :=
  ex_callB (r := rAll) (fun X hc _ => cr_all hc) B.all (ad_cons ha ad_nil hs) (fun ks q => by
    rw [q]
    intro F H vs w ks Q q
    cases ks with
    | cons k1 ks =>
      cases ks
      cases (show Rp E.K E.C F _ (.lst (bs.map Dt.bl)) from k1) with
      | lst h r =>
        rw [RpL.bls bs r] at h
        exact ⟨_, bs, rfl, SqL.of (w.ex _ _ h), q (.dat (.bl (bs.all id))) _ F H rfl (Stp.refl w) (Rp.bl _) Fr.dat⟩) (by decide +kernel) hg (by decide) (by decide) hs
theorem ed_any {bs : List Bool} (ha : ED E f a G (.lst (bs.map Dt.bl))) (hg : GlS f.sc "any" := by rfl) (hs : ∀ env : Env, starEach [a] env = (false, eval a env) :: starEach [] env := by intro _; rfl) : ED E f (.Call (.Name "any" p) [a] [] pos) G (.bl (bs.any id)) :=
  ex_callB (r := rAny) (fun X hc _ => cr_any hc) B.any (ad_cons ha ad_nil hs) (fun ks q => by
    rw [q]
    intro F H vs w ks Q q
    cases ks with
    | cons k1 ks =>
      cases ks
      cases (show Rp E.K E.C F _ (.lst (bs.map Dt.bl)) from k1) with
      | lst h r =>
        rw [RpL.bls bs r] at h
        exact ⟨_, bs, rfl, SqL.of (w.ex _ _ h), q (.dat (.bl (bs.any id))) _ F H rfl (Stp.refl w) (Rp.bl _) Fr.dat⟩) (by decide +kernel) hg (by decide) (by decide) hs
theorem ed_sum {ns : List Int} (ha : ED E f a G (.lst (ns.map Dt.int))) (hg : GlS f.sc "sum" := by rfl) (hs : ∀ env : Env, starEach [a] env = (false, eval a env) :: starEach [] env := by intro _; rfl) : ED E f (.Call (.Name "sum" p) [a] [] pos) G (.int ns.sum) :=
  ex_callB (r := rSum) (fun X hc _ => cr_sum hc) B.sum (ad_cons ha ad_nil hs) (fun ks q => by
    rw [q]
    intro F H vs w ks Q q
    cases ks with
    | cons k1 ks =>
      cases ks
      cases (show Rp E.K E.C F _ (.lst (ns.map Dt.int)) from k1) with
      | lst h r =>
        rw [RpL.ints ns r] at h
        exact ⟨_, ns, rfl, SqL.of (w.ex _ _ h), q (.dat (.int ns.sum)) _ F H rfl (Stp.refl w) (Rp.int _) Fr.dat⟩) (by decide +kernel) hg (by decide) (by decide) hs
/-- tuple(xs) of a list -/
theorem ex_tuple {k : Ki} {l : List Dt} (ha : EX E f a G (fun k' => k' = k)) (h : ∀ F H v, Wd f.hd F H → Ko E f.hd F H k v → ∃ a xs, v = .ref a ∧ H a = some (.lst xs) ∧ RpL E.K E.C F xs l) (hg : GlS f.sc "tuple" := by rfl)
    (hs : ∀ env : Env, starEach [a] env = (false, eval a env) :: starEach [] env := by intro _; rfl) : ED E f (.Call (.Name "tuple" p) [a] [] pos) G (.tup l) :=
  ex_callTy (r := fun K xs H Q => ∃ p ys, xs = [.ref p] ∧ ((SqL K H p ys ∧ ∀ l, H l = none → Q (.ref l) (upd H l (.tup ys))) ∨ (SqT K H p ys ∧ Q (.ref p) H))) (fun X _ _ => call_tuple_of) B.tuple (ad_k ha ad_nil hs) (fun ks q => by
    rw [q]
    intro F H vs w ks Q q
    cases ks with
    | cons k1 ks =>
      cases ks
      obtain ⟨a, xs, rfl, hH, r⟩ := h F H _ w k1
      refine ⟨a, xs, rfl, .inl ⟨SqL.of hH, fun p hp => ?_⟩⟩
      have s := Stp.new (o := .tup xs) w hp
      exact q (.dat (.tup l)) _ _ _ rfl s (Rp.tup upd_same (r.mono s.e.1)) Fr.dat) (by decide +kernel) hg (by decide) (by decide) hs
theorem ed_tuple {l : List Dt} (ha : ED E f a G (.lst l)) (hg : GlS f.sc "tuple" := by rfl) (hs : ∀ env : Env, starEach [a] env = (false, eval a env) :: starEach [] env := by intro _; rfl) : ED E f (.Call (.Name "tuple" p) [a] [] pos) G (.tup l) :=
  ex_tuple B ha (fun F H v w k => by cases (show Rp E.K E.C F _ (.lst l) from k) with | lst h r => exact ⟨_, _, rfl, w.ex _ _ h, r⟩) hg hs
theorem ed_tupleV {l : List Dt} (ha : EX E f a G (fun k => k = .vl l)) (hg : GlS f.sc "tuple" := by rfl) (hs : ∀ env : Env, starEach [a] env = (false, eval a env) :: starEach [] env := by intro _; rfl) : ED E f (.Call (.Name "tuple" p) [a] [] pos) G (.tup l) :=
  ex_tuple B ha (fun F H v w ⟨a, xs, e, h, r, _⟩ => ⟨a, xs, e, h, r⟩) hg hs
/-- list(t): a new list -/
theorem ed_list {d : Dt} {l : List Dt} (ha : ED E f a G d) (s : Seq d l) (hg : GlS f.sc "list" := by rfl) (hs : ∀ env : Env, starEach [a] env = (false, eval a env) :: starEach [] env := by intro _; rfl) : ED E f (.Call (.Name "list" p) [a] [] pos) G (.lst l) :=
  ex_callTy (r := fun K xs H Q => ∃ p ys, xs = [.ref p] ∧ (SqL K H p ys ∨ SqT K H p ys) ∧ ∀ l, H l = none → Q (.ref l) (upd H l (.lst ys))) (fun X _ _ => call_list_of) B.list (ad_cons ha ad_nil hs) (fun ks q => by
    rw [q]
    intro F H vs w ks Q q
    cases ks with
    | cons k1 ks =>
      cases ks
      obtain ⟨a, xs, rfl, hH, r⟩ := s.at w.ex k1
      refine ⟨a, xs, rfl, hH, fun p hp => ?_⟩
      have s := Stp.new (o := .lst xs) w hp
      exact q (.dat (.lst l)) _ _ _ rfl s (Rp.lst upd_same (r.mono s.e.1)) Fr.dat) (by decide +kernel) hg (by decide) (by decide) hs
/-! abs, int, min, max -/
theorem ed_abs {i : Int} (ha : ED E f a G (.int i)) (hg : GlS f.sc "abs" := by rfl) (hs : ∀ env : Env, starEach [a] env = (false, eval a env) :: starEach [] env := by intro _; rfl) : ED E f (.Call (.Name "abs" p) [a] [] pos) G (.int i.natAbs) :=
  ex_callB (r := fun _ xs H Q => ∃ i, xs = [.int i] ∧ Q (.int (if i < 0 then -i else i)) H) (fun X _ _ => call_abs) B.abs (ad_cons ha ad_nil hs) (fun ks q => by
    rw [q]
    intro F H vs w ks Q q
    cases ks with
    | cons k1 ks =>
      cases ks
      rw [ko_int k1]
      refine ⟨i, rfl, q (.dat (.int i.natAbs)) _ F H rfl (Stp.refl w) ?_ Fr.dat⟩
      have e : (if i < 0 then -i else i) = (i.natAbs : Int) := by split <;> omega
      rw [e]
      exact Rp.int _) (by decide +kernel) hg (by decide) (by decide) hs
theorem ei_int {P : Int → Prop} (ha : EI E f a G P) (hg : GlS f.sc "int" := by rfl) (hs : ∀ env : Env, starEach [a] env = (false, eval a env) :: starEach [] env := by intro _; rfl) : EI E f (.Call (.Name "int" p) [a] [] pos) G P :=
  ex_callTy (r := fun _ xs H Q => (∃ i, xs = [.int i] ∧ Q (.int i) H) ∨ ∃ k, xs = [.bl k] ∧ Q (.int (if k then 1 else 0)) H) (fun X _ _ => call_int1) B.int (ax_cons ha ax_nil hs) (fun ks ⟨k, r, e1, ⟨i, pi, e2⟩, e3⟩ => by
    rw [e1, e2, e3]
    intro F H vs w ks Q q
    cases ks with
    | cons k1 ks =>
      cases ks
      rw [ko_int k1]
      exact .inl ⟨i, rfl, q (.dat (.int i)) _ F H ⟨i, pi, rfl⟩ (Stp.refl w) (Rp.int _) Fr.dat⟩) (by decide +kernel) hg (by decide) (by decide) hs
theorem ed_toInt {i : Int} (ha : ED E f a G (.int i)) (hg : GlS f.sc "int" := by rfl) (hs : ∀ env : Env, starEach [a] env = (false, eval a env) :: starEach [] env := by intro _; rfl) : ED E f (.Call (.Name "int" p) [a] [] pos) G (.int i) := (ei_int B ha.ii hg hs).ed fun _ h => h
theorem ed_max {i j : Int} (ha : ED E f a G (.int i)) (hb : ED E f b G (.int j)) (hg : GlS f.sc "max" := by rfl) (hs : ∀ env : Env, starEach [a, b] env = (false, eval a env) :: starEach [b] env := by intro _; rfl) (hs2 : ∀ env : Env, starEach [b] env = (false, eval b env) :: starEach [] env := by intro _; rfl)
    (hpl : ∀ env : Env, (backTo pos (starEach [b] env)).any (·.1) = false := by intro _; rfl) : ED E f (.Call (.Name "max" p) [a, b] [] pos) G (.int (max i j)) :=
  ex_callB (r := fun _ xs H Q => ∃ i j, xs = [.int i, .int j] ∧ Q (.int (if j > i then j else i)) H) (fun X hc _ => call_max2 hc) B.max (ad_cons ha (ad_cons hb ad_nil hs2) hs) (fun ks q => by
    rw [q]
    intro F H vs w ks Q q
    cases ks with
    | cons k1 ks =>
      cases ks with
      | cons k2 ks =>
        cases ks
        rw [ko_int k1, ko_int k2]
        refine ⟨i, j, rfl, q (.dat (.int (max i j))) _ F H rfl (Stp.refl w) ?_ Fr.dat⟩
        have e : (if j > i then j else i) = max i j := by split <;> omega
        rw [e]
        exact Rp.int _) (by decide +kernel) hg (by decide) (by decide) hs hpl
theorem ed_min {i j : Int} (ha : ED E f a G (.int i)) (hb : ED E f b G (.int j)) (hg : GlS f.sc "min" := by rfl) (hs : ∀ env : Env, starEach [a, b] env = (false, eval a env) :: starEach [b] env := by intro _; rfl) (hs2 : ∀ env : Env, starEach [b] env = (false, eval b env) :: starEach [] env := by intro _; rfl)
    (hpl : ∀ env : Env, (backTo pos (starEach [b] env)).any (·.1) = false := by intro _; rfl) : ED E f (.Call (.Name "min" p) [a, b] [] pos) G (.int (min i j)) :=
  ex_callB (r := fun _ xs H Q => ∃ i j, xs = [.int i, .int j] ∧ Q (.int (if j < i then j else i)) H) (fun X hc _ => call_min2 hc) B.min (ad_cons ha (ad_cons hb ad_nil hs2) hs) (fun ks q => by
    rw [q]
    intro F H vs w ks Q q
    cases ks with
    | cons k1 ks =>
      cases ks with
      | cons k2 ks =>
        cases ks
        rw [ko_int k1, ko_int k2]
        refine ⟨i, j, rfl, q (.dat (.int (min i j))) _ F H rfl (Stp.refl w) ?_ Fr.dat⟩
        have e : (if j < i then j else i) = min i j := by split <;> omega
        rw [e]
        exact Rp.int _) (by decide +kernel) hg (by decide) (by decide) hs hpl
omit B
/-! ### subscripts -/
theorem ex_ixT {d : Dt} {l : List Dt} {P : Int → Prop} (ha : ED E f a G d) (s : d = .tup l ∨ d = .tuq l) (hb : EI E f b G P) (hR : ∀ i, P i → ∃ x, atI l i = some x ∧ R (.dat x)) (hs : PlainIx b := by intro _ _; rfl) : EX E f (.Subscript a b pos) G R := fun X hX => by
  refine pe_w (pe_ix ix_tup (ha X hX) (hb X hX) hs) ?_
  have ek : X.K = E.K := by obtain ⟨C, rfl⟩ := hX.en; rfl
  rw [ek]
  refine op_w (r := rIxT E.K) (fun _ _ _ h => h) (fun _ _ _ h => h) ?_
  rintro ka kb rfl ⟨i, pi, rfl⟩ F H x y w kx ky Q q
  obtain ⟨z, hz, hRz⟩ := hR i pi
  rw [ko_int ky]
  have sq : ∃ a xs, x = .ref a ∧ SqT E.K H a xs ∧ RpL E.K E.C F xs l := by
    rcases s with rfl | rfl
    · cases (show Rp E.K E.C F x (.tup l) from kx) with | tup h r => exact ⟨_, _, rfl, SqT.of (w.ex _ _ h), r⟩
    · cases (show Rp E.K E.C F x (.tuq l) from kx) with | tuq h r => exact ⟨_, _, rfl, ex_t w.ex h, r⟩
  obtain ⟨a, xs, rfl, h, r⟩ := sq
  unfold atI at hz
  rw [← r.length] at hz
  obtain ⟨j, hj, hz⟩ := Option.bind_eq_some_iff.mp hz
  obtain ⟨v, hv, rv⟩ := r.get hz
  exact ⟨a, xs, i, v, rfl, rfl, h, by unfold atI; rw [hj]; exact hv, q (.dat z) v F H hRz (Stp.refl w) rv Fr.dat⟩
theorem ed_ixT {l : List Dt} {i : Int} {x : Dt} (ha : ED E f a G (.tup l)) (hb : ED E f b G (.int i)) (h : atI l i = some x) (hs : PlainIx b := by intro _ _; rfl) : ED E f (.Subscript a b pos) G x :=
  ex_ixT ha (.inl rfl) hb.ii (fun j hj => ⟨x, by rw [hj]; exact h, rfl⟩) hs
theorem ed_ixQ {l : List Dt} {i : Int} {x : Dt} (ha : ED E f a G (.tuq l)) (hb : ED E f b G (.int i)) (h : atI l i = some x) (hs : PlainIx b := by intro _ _; rfl) : ED E f (.Subscript a b pos) G x :=
  ex_ixT ha (.inr rfl) hb.ii (fun j hj => ⟨x, by rw [hj]; exact h, rfl⟩) hs
theorem ex_ixL {k : Ki} {l : List Dt} {P : Int → Prop} (ha : EX E f a G (fun k' => k' = k)) (hk : ∀ F H v, Wd f.hd F H → Ko E f.hd F H k v → ∃ a xs, v = .ref a ∧ SqL E.K H a xs ∧ RpL E.K E.C F xs l) (hb : EI E f b G P) (hR : ∀ i, P i → ∃ x, atI l i = some x ∧ R (.dat x)) (hs : PlainIx b := by intro _ _; rfl) : EX E f (.Subscript a b pos) G R := fun X hX => by
  refine ⟨fun pins s σ H Q I hq => ?_⟩
  have ek : X.K = E.K := by obtain ⟨C, rfl⟩ := hX.en; rfl
  refine (pe_ix ix_list (ha X hX) (hb X hX) hs).run pins s σ H Q I ?_
  rw [ek]
  obtain ⟨F, w, t, q⟩ := hq
  refine ⟨F, w, t, ?_⟩
  rintro ka x F1 H1 rfl s1 kx -
  refine ⟨F1, s1.wd, t.mono s1, ?_⟩
  rintro kb y F2 H2 ⟨i, pi, rfl⟩ s2 ky -
  obtain ⟨z, hz, hRz⟩ := hR i pi
  rw [ko_int ky]
  obtain ⟨a, xs, rfl, h, r⟩ := hk F2 H2 x s2.wd (kx.mono s2)
  unfold atI at hz
  rw [← r.length] at hz
  obtain ⟨j, hj, hz⟩ := Option.bind_eq_some_iff.mp hz
  obtain ⟨v, hv, rv⟩ := r.get hz
  exact ⟨a, xs, i, v, rfl, rfl, h, by unfold atI; rw [hj]; exact hv, q (.dat z) v F2 H2 hRz (s1.trans s2) rv Fr.dat⟩
theorem ed_ixL {l : List Dt} {i : Int} {x : Dt} (ha : ED E f a G (.lst l)) (hb : ED E f b G (.int i)) (h : atI l i = some x) (hs : PlainIx b := by intro _ _; rfl) : ED E f (.Subscript a b pos) G x :=
  ex_ixL ha (fun F H v w k => by cases (show Rp E.K E.C F _ (.lst l) from k) with | lst h r => exact ⟨_, _, rfl, SqL.of (w.ex _ _ h), r⟩) hb.ii (fun j hj => ⟨x, by rw [hj]; exact h, rfl⟩) hs
theorem ed_ixV {l : List Dt} {i : Int} {x : Dt} (ha : EX E f a G (fun k => k = .vl l)) (hb : ED E f b G (.int i)) (h : atI l i = some x) (hs : PlainIx b := by intro _ _; rfl) : ED E f (.Subscript a b pos) G x :=
  ex_ixL ha (fun F H v w ⟨a, xs, e, h, r, _⟩ => ⟨a, xs, e, SqL.of h, r⟩) hb.ii (fun j hj => ⟨x, by rw [hj]; exact h, rfl⟩) hs

/-! ### what is walked -/
theorem itd_list {hd : Hd} {F : Hp} {a : Addr} {xs : List V} {ds : List Dt} (h : SqL E.K F a xs) (r : RpL E.K E.C F xs ds) (inj : ∀ H ys, Ex F H → SqL E.K H a ys → ys = xs) : ItD E hd (Itl E.K a) F ds := by
  intro i F1 H1 e w
  refine ⟨fun d hd => ?_, fun hi => ⟨xs, ex_l (e.trans w.ex) h, by rw [r.length]; exact hi⟩⟩
  obtain ⟨v, hv, rv⟩ := r.get hd
  refine ⟨⟨xs, v, ex_l (e.trans w.ex) h, hv⟩, fun x H' ⟨e1, e2⟩ => ?_⟩
  subst e1
  have := e2 xs (ex_l (e.trans w.ex) h)
  rw [hv] at this
  cases this
  exact ⟨F1, Stp.refl w, rv.mono e⟩
theorem itd_tup {hd : Hd} {F : Hp} {a : Addr} {xs : List V} {ds : List Dt} (h : SqT E.K F a xs) (r : RpL E.K E.C F xs ds) : ItD E hd (Itt E.K a) F ds := by
  intro i F1 H1 e w
  refine ⟨fun d hd => ?_, fun hi => ⟨xs, ex_t (e.trans w.ex) h, by rw [r.length]; exact hi⟩⟩
  obtain ⟨v, hv, rv⟩ := r.get hd
  refine ⟨⟨xs, v, ex_t (e.trans w.ex) h, hv⟩, fun x H' ⟨e1, e2⟩ => ?_⟩
  subst e1
  have := e2 xs (ex_t (e.trans w.ex) h)
  rw [hv] at this
  cases this
  exact ⟨F1, Stp.refl w, rv.mono e⟩
theorem itd_rng {hd : Hd} {F : Hp} (lo : Int) (n : Nat) : ItD E hd (Itr lo n) F ((List.range n).map fun i => .int (lo + (i : Nat))) := by
  intro i F1 H1 e w
  refine ⟨fun d hd => ?_, fun hi => ?_⟩
  · rw [List.getElem?_map] at hd
    by_cases hi : i < n
    · rw [List.getElem?_range hi] at hd
      cases hd
      refine ⟨hi, fun x H' ⟨e1, e2⟩ => ?_⟩
      subst e1 e2
      exact ⟨F1, Stp.refl w, Rp.int _⟩
    · rw [List.getElem?_eq_none (by rw [List.length_range]; omega)] at hd
      cases hd
  · rw [List.length_map, List.length_range] at hi
    exact hi
theorem ix_tup {tg : Expr} {d : Dt} {l : List Dt} (ha : ED E f a G d) (s : d = .tup l ∨ d = .tuq l) : IXl E f tg a G l := fun X hX => by
  have ek : X.K = E.K := by obtain ⟨C, rfl⟩ := hX.en; rfl
  refine pi_w (pi_tup (ha X hX)) ?_
  rw [ek]
  rintro σ H Q ⟨F, w, t, q⟩
  refine ⟨F, w, t, ?_⟩
  rintro k v F1 H1 rfl s1 kv -
  have sq : ∃ a xs, v = .ref a ∧ SqT E.K F1 a xs ∧ RpL E.K E.C F1 xs l := by
    rcases s with rfl | rfl
    · cases (show Rp E.K E.C F1 v (.tup l) from kv) with | tup h r => exact ⟨_, _, rfl, SqT.of h, r⟩
    · cases (show Rp E.K E.C F1 v (.tuq l) from kv) with | tuq h r => exact ⟨_, _, rfl, h, r⟩
  obtain ⟨a, xs, rfl, h, r⟩ := sq
  exact ⟨a, rfl, ⟨xs, ex_t s1.wd.ex h⟩, q _ _ F1 H1 rfl s1 (itd_tup h r)⟩
theorem ix_tupT {tg : Expr} {l : List Dt} (ha : ED E f a G (.tup l)) : IXl E f tg a G l := ix_tup ha (.inl rfl)
theorem ix_lst {tg : Expr} {l : List Dt} (ha : ED E f a G (.lst l)) : IXl E f tg a G l := fun X hX => by
  have ek : X.K = E.K := by obtain ⟨C, rfl⟩ := hX.en; rfl
  refine pi_w (pi_list (ha X hX)) ?_
  rw [ek]
  rintro σ H Q ⟨F, w, t, q⟩
  refine ⟨F, w, t, ?_⟩
  rintro k v F1 H1 rfl s1 kv -
  cases (show Rp E.K E.C F1 v (.lst l) from kv) with
  | @lst a xs _ h r =>
    exact ⟨a, rfl, ⟨xs, SqL.of (s1.wd.ex _ _ h)⟩, q _ _ F1 H1 rfl s1 (fun i F2 H2 e w => by
      have hh : SqL E.K H2 a xs := SqL.of (w.ex _ _ (e _ _ h))
      refine ⟨fun d hd => ?_, fun hi => ⟨xs, hh, by rw [r.length]; exact hi⟩⟩
      obtain ⟨v, hv, rv⟩ := r.get hd
      refine ⟨⟨xs, v, hh, hv⟩, fun x H' ⟨e1, e2⟩ => ?_⟩
      subst e1
      have := e2 xs hh
      rw [hv] at this
      cases this
      exact ⟨F2, Stp.refl w, rv.mono e⟩)⟩
include B
/-- range(n) -/
theorem ix_range {tg : Expr} {P : Int → Prop} (ha : EI E f a G P) (hP : ∀ n, P n → 0 ≤ n ∧ n ≤ 1000000) (hg : GlS f.sc "range" := by rfl) (hs : ∀ env : Env, starEach [a] env = (false, eval a env) :: starEach [] env := by intro _; rfl) (hs' : ∀ env : Env, starEach [a] env = [(false, eval a env)] := by intro _; rfl) :
    IX E f tg (.Call (.Name "range" p) [a] [] pos) G (fun ds => ∃ n : Nat, P n ∧ ds = (List.range n).map fun i => .int (i : Nat)) := fun X hX => by
  have g := hX.gl hg
  have hm : X.mg "range" = none := by
    obtain ⟨C, rfl⟩ := hX.en
    exact B.range
  refine pi_w (pi_range1 g hm (pa_cons (ha X hX) pa_nil (hs _)) (hs' _)) ?_
  rintro σ H Q ⟨F, w, t, q⟩
  refine ⟨F, w, t, ?_⟩
  rintro k v F1 H1 ⟨n, pn, rfl⟩ s1 kv -
  rw [ko_int kv]
  obtain ⟨h0, h1⟩ := hP n pn
  obtain ⟨m, rfl⟩ := Int.eq_ofNat_of_zero_le h0
  refine ⟨(m : Int), rfl, by omega, by omega, q _ _ F1 H1 ⟨m, pn, rfl⟩ s1 ?_⟩
  have e := itd_rng (E := E) (hd := f.hd) (F := F1) 0 m
  have e2 : ((List.range m).map fun i : Nat => Dt.int (0 + (i : Int))) = (List.range m).map fun i : Nat => Dt.int (i : Int) := List.map_congr_left fun i _ => by rw [Int.zero_add]
  rw [e2] at e
  exact e
theorem ixl_range {tg : Expr} {n : Nat} (ha : ED E f a G (.int n)) (hn : n ≤ 1000000) (hg : GlS f.sc "range" := by rfl) (hs : ∀ env : Env, starEach [a] env = (false, eval a env) :: starEach [] env := by intro _; rfl) (hs' : ∀ env : Env, starEach [a] env = [(false, eval a env)] := by intro _; rfl) :
    IXl E f tg (.Call (.Name "range" p) [a] [] pos) G ((List.range n).map fun i : Nat => .int (i : Int)) :=
  (ix_range B ha.ii (fun j hj => by rw [hj]; omega) hg hs hs').weaken fun ds ⟨m, hm, e⟩ => by
    have : m = n := by omega
    rw [e, this]
theorem ixl_range2 {tg : Expr} {lo hi : Int} (ha : ED E f a G (.int lo)) (hb : ED E f b G (.int hi)) (h0 : 0 ≤ lo ∧ lo ≤ 1000000 ∧ 0 ≤ hi ∧ hi ≤ 1000000) (hg : GlS f.sc "range" := by rfl) (hs : ∀ env : Env, starEach [a, b] env = (false, eval a env) :: starEach [b] env := by intro _; rfl)
    (hs2 : ∀ env : Env, starEach [b] env = (false, eval b env) :: starEach [] env := by intro _; rfl) (hs3 : ∀ env : Env, starEach [a, b] env = [(false, eval a env), (false, eval b env)] := by intro _; rfl) (hs4 : ∀ env : Env, starEach [b] env = [(false, eval b env)] := by intro _; rfl) :
    IXl E f tg (.Call (.Name "range" p) [a, b] [] pos) G ((List.range (hi - lo).toNat).map fun i : Nat => .int (lo + (i : Int))) := fun X hX => by
  have g := hX.gl hg
  have hm : X.mg "range" = none := by
    obtain ⟨C, rfl⟩ := hX.en
    exact B.range
  refine pi_w (pi_range2 g hm (pa_cons (ha X hX) (pa_cons (hb X hX) pa_nil (hs2 _)) (hs _)) (hs3 _) (hs4 _)) ?_
  rintro σ H Q ⟨F, w, t, q⟩
  refine ⟨F, w, t, ?_⟩
  rintro k v F1 H1 rfl s1 kv -
  refine ⟨F1, s1.wd, t.mono s1, ?_⟩
  rintro k2 v2 F2 H2 rfl s2 kv2 -
  rw [ko_int kv, ko_int kv2]
  exact ⟨lo, hi, rfl, by omega, q _ _ F2 H2 rfl (s1.trans s2) (itd_rng lo _)⟩
/-- tuple(range(n)), list(range(n)) -/
theorem ed_tupRange {n : Nat} {q1 q2 : Pos} (ha : ED E f a G (.int n)) (hn : n ≤ 1000000) (hg : GlS f.sc "range" := by rfl) (hg2 : GlS f.sc "tuple" := by rfl) (hs : ∀ env : Env, starEach [a] env = (false, eval a env) :: starEach [] env := by intro _; rfl)
    (hs2 : ∀ env : Env, starEach [.Call (.Name "range" q1) [a] [] q2] env = (false, eval (.Call (.Name "range" q1) [a] [] q2) env) :: starEach [] env := by intro _; rfl) : ED E f (.Call (.Name "tuple" p) [.Call (.Name "range" q1) [a] [] q2] [] pos) G (.tup ((List.range n).map fun i : Nat => .int (i : Int))) := fun X hX => by
  have g := hX.gl hg
  have g2 := hX.gl hg2
  have hm : X.mg "range" = none ∧ X.mg "tuple" = none := by
    obtain ⟨C, rfl⟩ := hX.en
    exact ⟨B.range, B.tuple⟩
  refine pe_w (pe_tupRg hX.calm g2 hm.2 (prg_1 g hm.1 (ha X hX) (hs _)) (hs2 _)) ?_
  rintro σ H Q ⟨F, w, t, q⟩
  refine ⟨F, w, t, ?_⟩
  rintro k v F1 H1 rfl s1 kv -
  rw [ko_int kv]
  refine ⟨(n : Int), rfl, RgOk.of_le (by omega) (by omega) (by omega) (by omega), fun p hp => ?_⟩
  have s2 := Stp.new (o := .tup (rgV 0 n)) s1.wd hp
  refine q _ _ _ _ rfl (s1.trans s2) (Rp.tup upd_same ?_) Fr.dat
  have e : rgV 0 (n : Int) = ((List.range n).map fun i : Nat => (i : Int)).map V.int := by
    unfold rgV
    rw [List.map_map, show ((n : Int) - 0).toNat = n by omega]
    exact List.map_congr_left fun i _ => by show V.int (0 + (i : Int)) = V.int (i : Int); rw [Int.zero_add]
  have e2 : ((List.range n).map fun i : Nat => Dt.int (i : Int)) = ((List.range n).map fun i : Nat => (i : Int)).map Dt.int := by rw [List.map_map]; rfl
  rw [e, e2]
  exact RpL.of_ints _
theorem eo_listRange {n : Nat} {q1 q2 : Pos} (ha : ED E f a G (.int n)) (hn : n ≤ 1000000) (hg : GlS f.sc "range" := by rfl) (hg2 : GlS f.sc "list" := by rfl) (hs : ∀ env : Env, starEach [a] env = (false, eval a env) :: starEach [] env := by intro _; rfl)
    (hs2 : ∀ env : Env, starEach [.Call (.Name "range" q1) [a] [] q2] env = (false, eval (.Call (.Name "range" q1) [a] [] q2) env) :: starEach [] env := by intro _; rfl) : EX E f (.Call (.Name "list" p) [.Call (.Name "range" q1) [a] [] q2] [] pos) G (fun k => k = .ol ((List.range n).map fun i : Nat => .int (i : Int))) := fun X hX => by
  have g := hX.gl hg
  have g2 := hX.gl hg2
  have hm : X.mg "range" = none ∧ X.mg "list" = none := by
    obtain ⟨C, rfl⟩ := hX.en
    exact ⟨B.range, B.list⟩
  refine pe_w (pe_listRg hX.calm g2 hm.2 (prg_1 g hm.1 (ha X hX) (hs _)) (hs2 _)) ?_
  rintro σ H Q ⟨F, w, t, q⟩
  refine ⟨F, w, t, ?_⟩
  rintro k v F1 H1 rfl s1 kv -
  rw [ko_int kv]
  refine ⟨(n : Int), rfl, RgOk.of_le (by omega) (by omega) (by omega) (by omega), fun p hp => ?_⟩
  have s2 := Stp.own (o := .lst (rgV 0 n)) s1.wd hp
  refine q _ _ _ _ rfl (s1.trans s2) ⟨p, _, rfl, upd_same, ?_, s1.wd.ne hp⟩ (Fr.back s1 fun _ a e => by cases e; exact ⟨hp, s1.wd.ex.none hp⟩)
  have e : rgV 0 (n : Int) = ((List.range n).map fun i : Nat => (i : Int)).map V.int := by
    unfold rgV
    rw [List.map_map, show ((n : Int) - 0).toNat = n by omega]
    exact List.map_congr_left fun i _ => by show V.int (0 + (i : Int)) = V.int (i : Int); rw [Int.zero_add]
  have e2 : ((List.range n).map fun i : Nat => Dt.int (i : Int)) = ((List.range n).map fun i : Nat => (i : Int)).map Dt.int := by rw [List.map_map]; rfl
  rw [e, e2]
  exact RpL.of_ints _
end A8
set_option Elab.async false
set_option linter.all false
set_option maxRecDepth 100000
set_option maxHeartbeats 4000000
/-! {k: v} with k a tuple -/
namespace A8
open PySem PySem.Spec PyProof.Rows L2
section
variable {X : Cx} {k v : Expr} {tk tv : TE} {pos : Pos}
def tDispT (tk tv : TE) : TE := fun σ H Q => ∀ p, H p = none → tk σ (upd H p (.dT [])) fun x H1 => tv σ H1 fun y H2 => H2 p = some (.dT []) ∧ ∃ (ks : List Key) (b : Addr), x = .ref b ∧ H2 b = some (.tup (ks.map kV)) ∧ Q (.ref p) (upd H2 p (.dT [(ks, y)]))
theorem pe_dispT (hu : X.A.units + 1 < cLine) (hk : PE X k tk) (hv : PE X v tv) : PE X (.Dict [some k] [v] pos) (tDispT tk tv) := by
  refine ⟨fun pins s σ H Q I q => ?_⟩
  have hn := I.hok.fresh (Nat.le_refl s.heap.objs.size)
  have I1 := I.laid (a := s.heap.objs.size) (o := .dT []) (h' := s.heap.push { cls := .type "dict", data := .dict #[] }) (t' := s.toks) (fun _ _ q => Heap.get?_push_of_some _ q) (Nat.le_refl _) (dt_empty s.heap I.big)
  rw [arm_eval_Dict, zip_pairTrees _ _ _ _ rfl rfl, dictDisplay_pairs _ (by simp [pairTrees]) (by simp [pairTrees])]
  refine wpAny_bind (wpAny_standAt (wpAny_bind (wpAny_subDictH (knd := tupleKind (mixKind X.prog X.w)) (show X.A.units < cLine by omega) (by simp [pairTrees]) ?_)))
  have P := pps_cons (pos := pos) hk hv (pps_nil (X := X))
  have q0 := q _ hn
  refine thn (P.run pins _ σ _ (fun ps H2 => ∃ x y, ps = [(x, y)] ∧ H2 s.heap.objs.size = some (.dT []) ∧ ∃ (ks : List Key) (b : Addr), x = .ref b ∧ H2 b = some (.tup (ks.map kV)) ∧ Q (.ref s.heap.objs.size) (upd H2 s.heap.objs.size (.dT [(ks, y)]))) I1 ?_) ?_
  · show tk σ _ fun x H1 => tv σ H1 fun y H2 => _
    have imp : ∀ (Q1 Q2 : VK), (∀ v H, Q1 v H → Q2 v H) → True := fun _ _ _ => trivial
    exact (show tk σ _ fun x H1 => tv σ H1 fun y H2 => ∃ x' y', [(x, y)] = [(x', y')] ∧ _ from by
      have e : (fun (x : V) (H1 : Hp) => tv σ H1 fun y H2 => H2 s.heap.objs.size = some (.dT []) ∧ ∃ (ks : List Key) (b : Addr), x = .ref b ∧ H2 b = some (.tup (ks.map kV)) ∧ Q (.ref s.heap.objs.size) (upd H2 s.heap.objs.size (.dT [(ks, y)]))) =
          (fun (x : V) (H1 : Hp) => tv σ H1 fun y H2 => ∃ x' y', [(x, y)] = [(x', y')] ∧ H2 s.heap.objs.size = some (.dT []) ∧ ∃ (ks : List Key) (b : Addr), x' = .ref b ∧ H2 b = some (.tup (ks.map kV)) ∧ Q (.ref s.heap.objs.size) (upd H2 s.heap.objs.size (.dT [(ks, y')]))) := by
        funext x H1
        congr 1
        funext y H2
        apply propext
        constructor
        · intro h
          exact ⟨x, y, rfl, h⟩
        · rintro ⟨x', y', e, h⟩
          cases e
          exact h
      rw [← e]
      exact q0)
  · rintro ws s2 ⟨ps, H2, I2, rel, x, y, rfl, e, ks, b, rfl, eb, q2⟩
    cases rel with
    | @cons p0 w0 _ _ rp rr =>
      cases rr
      obtain ⟨u1, u2⟩ := w0
      cases (show u1 = Value.ref b from rp.1)
      obtain ⟨z, hd, xs, rel, dd⟩ := dt_of I2.hok e
      cases rel
      refine ⟨[(ks, b, u2)], ⟨rfl, rfl, key_of I2.hok eb, trivial⟩, dd, fun h' tk dd' hs => wpAny_pure ⟨.ref s.heap.objs.size, _, ?_, rfl, q2⟩⟩
      obtain ⟨o, es, ep, hq, h2, h3, h4, _, h5⟩ := dd'
      refine d_write I2 (by rw [e]; exact True.intro) hs ⟨o, hq⟩ ⟨(show 1 ≤ sizeLine by decide +kernel), hd, [(ks, b, u2)], .cons ⟨rfl, ?_, rp.2⟩ .nil, o, es, ep, hq, h2, h3, h4, h5⟩
      rw [upd_ne (ne_of eb e (fun z => nomatch z))]
      exact eb
end
end A8
set_option Elab.async false
set_option linter.all false
set_option maxRecDepth 100000
set_option maxHeartbeats 4000000
namespace A8
open PySem PySem.Spec PyProof.Rows L2
variable {E : En} {f : Fm} {G : List Ki} {e a b c : Expr} {es : List Expr} {pos p pos' : Pos} {R Ra Rb : Ki → Prop}
theorem FmOk.un {X : Cx} (h : FmOk E f X) : X.A.units + 100 < cLine := by have := h.room.un; omega

/-! ### == != in of data -/
theorem rv_eqD {hd : Hd} {d d' : Dt} {R : Bool → Prop} (p : d.pl = true) (p' : d'.pl = true) (s : SeqAt.shaped d.py = true) (s' : SeqAt.shaped d'.py = true) (h : R (PyData.eqv d.py d'.py)) : RV E hd (rEqD E.K) (.dat d) (.dat d') (bis R) := by
  intro F H x y w kx ky Q q
  exact ⟨_, _, Rp.dp p (Rp.mono w.ex kx), Rp.dp p' (Rp.mono w.ex ky), s, s', q (.dat (.bl _)) _ F H ⟨_, h, rfl⟩ (Stp.refl w) (Rp.bl _) Fr.dat⟩
theorem rv_neD {hd : Hd} {d d' : Dt} {R : Bool → Prop} (p : d.pl = true) (p' : d'.pl = true) (s : SeqAt.shaped d.py = true) (s' : SeqAt.shaped d'.py = true) (h : R (!PyData.eqv d.py d'.py)) : RV E hd (rNeD E.K) (.dat d) (.dat d') (bis R) := by
  intro F H x y w kx ky Q q
  exact ⟨_, _, Rp.dp p (Rp.mono w.ex kx), Rp.dp p' (Rp.mono w.ex ky), s, s', q (.dat (.bl _)) _ F H ⟨_, h, rfl⟩ (Stp.refl w) (Rp.bl _) Fr.dat⟩
section
variable {d d' : Dt}
theorem td_eqD (ha : ED E f a G d) (hb : ED E f b G d') (p : d.pl = true) (p' : d'.pl = true) (s : SeqAt.shaped d.py = true) (s' : SeqAt.shaped d'.py = true) : TD E f (.Compare a [.Eq] [b] pos) G (PyData.eqv d.py d'.py) :=
  tx_cmp (r := rEqD) (fun X hX => op_eqD (by have := hX.un; omega)) ha hb (fun ka kb e1 e2 => by rw [e1, e2]; exact rv_eqD p p' s s' rfl) (nomark _)
theorem td_neD (ha : ED E f a G d) (hb : ED E f b G d') (p : d.pl = true) (p' : d'.pl = true) (s : SeqAt.shaped d.py = true) (s' : SeqAt.shaped d'.py = true) : TD E f (.Compare a [.NotEq] [b] pos) G (!PyData.eqv d.py d'.py) :=
  tx_cmp (r := rNeD) (fun X hX => op_neD (by have := hX.un; omega)) ha hb (fun ka kb e1 e2 => by rw [e1, e2]; exact rv_neD p p' s s' rfl) (nomark _)
theorem ed_eqD (ha : ED E f a G d) (hb : ED E f b G d') (p : d.pl = true) (p' : d'.pl = true) (s : SeqAt.shaped d.py = true) (s' : SeqAt.shaped d'.py = true) : ED E f (.Compare a [.Eq] [b] pos) G (.bl (PyData.eqv d.py d'.py)) :=
  (ex_cmp (r := rEqD) (R := bis fun c => c = PyData.eqv d.py d'.py) (fun X hX => op_eqD (by have := hX.un; omega)) ha hb (fun ka kb e1 e2 => by rw [e1, e2]; exact rv_eqD p p' s s' rfl) (nomark _)).edb fun _ h => h
/-- in a tuple -/
def rInT (K : PySem.W.Frag) : R2 := fun x y H Q => ∃ d ds, Dp K H x d ∧ Dp K H y (.tuple ds) ∧ SeqAt.shaped d = true ∧ SeqAt.shaped (.tuple ds) = true ∧ Q (.bl (ds.any fun z => PyData.eqv z d)) H
def rNotInT (K : PySem.W.Frag) : R2 := fun x y H Q => ∃ d ds, Dp K H x d ∧ Dp K H y (.tuple ds) ∧ SeqAt.shaped d = true ∧ SeqAt.shaped (.tuple ds) = true ∧ Q (.bl (!ds.any fun z => PyData.eqv z d)) H
theorem op_inT {X : Cx} (hu : X.A.units + 65 < cLine) : OpR X (compareOp .In) (rInT X.K) := by
  intro pins s σ H x y v u Q I rx ry h
  obtain ⟨d, ds, hd, he, sd, se, q⟩ := h
  obtain ⟨as, r1⟩ := Dp.reads I d x v hd rx
  obtain ⟨bs, r2⟩ := Dp.reads I (.tuple ds) y u he ry
  exact SeqAt.in_tuple_reads r2 r1 (SeqAt.canLay_of_shaped se) (SeqAt.canLay_of_shaped sd) (room_in_shaped sd hu) ⟨.bl _, H, I, rfl, q⟩
/-- what a value holds: a list or a tuple of data -/
def HoldD (E : En) (hd : Hd) (k : Ki) (ls : Bool) (l : List Dt) : Prop := ∀ F H v, Wd hd F H → Ko E hd F H k v → ∃ a xs, v = .ref a ∧ (if ls = true then SqL E.K H a xs else SqT E.K H a xs) ∧ RpL E.K E.C F xs l
theorem holdV {hd : Hd} {l : List Dt} : HoldD E hd (.vl l) true l := fun F H v w ⟨a, xs, e, h, r, _⟩ => ⟨a, xs, e, by rw [if_pos rfl]; exact SqL.of h, r⟩
theorem holdL {hd : Hd} {l : List Dt} : HoldD E hd (.dat (.lst l)) true l := fun F H v w k => by
  cases (show Rp E.K E.C F v (.lst l) from k) with | lst h r => exact ⟨_, _, rfl, by rw [if_pos rfl]; exact SqL.of (w.ex _ _ h), r⟩
theorem holdT {hd : Hd} {l : List Dt} : HoldD E hd (.dat (.tup l)) false l := fun F H v w k => by
  cases (show Rp E.K E.C F v (.tup l) from k) with | tup h r => exact ⟨_, _, rfl, by rw [if_neg (by decide)]; exact SqT.of (w.ex _ _ h), r⟩
def inD (d : Dt) (l : List Dt) : Bool := l.any fun z => PyData.eqv z.py d.py
theorem pyL_any (d : Dt) (l : List Dt) : (Dt.pyL l).any (fun z => PyData.eqv z d.py) = inD d l := by
  rw [Dt.pyL_eq, List.any_map]
  rfl
def rInA (K : PySem.W.Frag) : Bool → R2
  | true => rInD K
  | false => rInT K
theorem op_inA {X : Cx} (hu : X.A.units + 65 < cLine) : ∀ ls : Bool, OpR X (compareOp .In) (rInA X.K ls)
  | true => op_inD hu
  | false => op_inT hu
theorem rv_in {hd : Hd} {k : Ki} {ls : Bool} {l : List Dt} {R : Bool → Prop} (hk : HoldD E hd k ls l) (p : d.pl = true) (p' : Dt.plL l = true) (s : SeqAt.shaped d.py = true) (s' : SeqAt.shaped (Dt.tup l).py = true) (h : R (inD d l)) :
    RV E hd (rInA E.K ls) (.dat d) k (bis R) := by
  intro F H x y w kx ky Q q
  obtain ⟨a, xs, rfl, hs, r⟩ := hk F H y w ky
  have r' := RpL.dp p' (r.mono w.ex)
  rw [Dt.py] at s'
  have fin : Q (.bl ((Dt.pyL l).any fun z => PyData.eqv z d.py)) H := by
    rw [pyL_any]
    exact q (.dat (.bl _)) _ F H ⟨_, h, rfl⟩ (Stp.refl w) (Rp.bl _) Fr.dat
  cases ls with
  | true => exact ⟨_, _, Rp.dp p (Rp.mono w.ex kx), .lst (by rw [if_pos rfl] at hs; exact hs) r', s, s', fin⟩
  | false => exact ⟨_, _, Rp.dp p (Rp.mono w.ex kx), .tup (by rw [if_neg (by decide)] at hs; exact hs) r', s, s', fin⟩
theorem ed_in {k : Ki} {ls : Bool} {l : List Dt} (ha : ED E f a G d) (hb : EX E f b G (fun k' => k' = k)) (hk : HoldD E f.hd k ls l) (p : d.pl = true) (p' : Dt.plL l = true) (s : SeqAt.shaped d.py = true) (s' : SeqAt.shaped (Dt.tup l).py = true) (hm : behindInMarks .In b = false := by rfl) : ED E f (.Compare a [.In] [b] pos) G (.bl (inD d l)) :=
  (ex_cmp (r := fun K => rInA K ls) (R := bis fun c => c = inD d l) (fun X hX => op_inA (by have := hX.un; omega) ls) ha hb (fun ka kb e1 e2 => by rw [e1, e2]; exact rv_in hk p p' s s' rfl) hm).edb fun _ h => h
theorem td_in {k : Ki} {ls : Bool} {l : List Dt} (ha : ED E f a G d) (hb : EX E f b G (fun k' => k' = k)) (hk : HoldD E f.hd k ls l) (p : d.pl = true) (p' : Dt.plL l = true) (s : SeqAt.shaped d.py = true) (s' : SeqAt.shaped (Dt.tup l).py = true) (hm : behindInMarks .In b = false := by rfl) : TD E f (.Compare a [.In] [b] pos) G (inD d l) :=
  tx_cmp (r := fun K => rInA K ls) (fun X hX => op_inA (by have := hX.un; omega) ls) ha hb (fun ka kb e1 e2 => by rw [e1, e2]; exact rv_in hk p p' s s' rfl) hm
/-- not in a list -/
theorem td_notin {k : Ki} {l : List Dt} (ha : ED E f a G d) (hb : EX E f b G (fun k' => k' = k)) (hk : HoldD E f.hd k true l) (p : d.pl = true) (p' : Dt.plL l = true) (s : SeqAt.shaped d.py = true) (s' : SeqAt.shaped (Dt.tup l).py = true) (hm : behindInMarks .NotIn b = false := by rfl) : TD E f (.Compare a [.NotIn] [b] pos) G (!inD d l) :=
  tx_cmp (r := rNotInD) (fun X hX => op_notInD (by have := hX.un; omega)) ha hb (fun ka kb e1 e2 => by
    rw [e1, e2]
    intro F H x y w kx ky Q q
    obtain ⟨a, xs, rfl, hs, r⟩ := hk F H y w ky
    have r' := RpL.dp p' (r.mono w.ex)
    rw [Dt.py] at s'
    refine ⟨_, _, Rp.dp p (Rp.mono w.ex kx), .lst (by rw [if_pos rfl] at hs; exact hs) r', s, s', ?_⟩
    rw [pyL_any]
    exact q (.dat (.bl _)) _ F H ⟨_, rfl, rfl⟩ (Stp.refl w) (Rp.bl _) Fr.dat) hm
end

/-! ### tuples: +, slices, < -/
theorem RpL.nil_iff {F : Hp} {xs : List V} {l : List Dt} (r : RpL E.K E.C F xs l) : xs = [] ↔ l = [] := by
  cases r <;> simp
theorem ed_cat {l m : List Dt} (ha : ED E f a G (.tup l)) (hb : ED E f b G (.tup m)) (hlen : l.length + m.length ≤ 1000000) : ED E f (.BinOp a .Add b pos) G (.tup (l ++ m)) :=
  ex_op (r := rCatA) (fun X _ => op_catA) ha hb fun ka kb e1 e2 => by
    rw [e1, e2]
    intro F H x y w kx ky Q q
    cases (show Rp E.K E.C F x (.tup l) from kx) with
    | @tup a xs _ h1 r1 =>
      cases (show Rp E.K E.C F y (.tup m) from ky) with
      | @tup b ys _ h2 r2 =>
        refine ⟨a, b, xs, ys, rfl, rfl, SqT.of (w.ex _ _ h1), SqT.of (w.ex _ _ h2), by rw [r1.length, r2.length]; exact Nat.le_trans hlen (by decide), fun z => ?_, fun _ z => ?_, fun _ _ p hp => ?_⟩
        · have := r1.nil_iff.mp z
          subst this
          exact q (.dat (.tup ([] ++ m))) _ F H rfl (Stp.refl w) (Rp.tup h2 r2) Fr.dat
        · have := r2.nil_iff.mp z
          subst this
          exact q (.dat (.tup (l ++ []))) _ F H rfl (Stp.refl w) (by rw [List.append_nil]; exact Rp.tup h1 r1) Fr.dat
        · have s := Stp.new (o := .tup (xs ++ ys)) w hp
          exact q (.dat (.tup (l ++ m))) _ _ _ rfl s (Rp.tup upd_same ((r1.mono s.e.1).append (r2.mono s.e.1))) Fr.dat
theorem rv_ltT {hd : Hd} {ns ms : List Int} {R : Bool → Prop} (h : R (HT.lexLt ns ms)) : RV E hd (rLtT E.K) (.dat (.tup (ns.map Dt.int))) (.dat (.tup (ms.map Dt.int))) (bis R) := by
  intro F H x y w kx ky Q q
  cases (show Rp E.K E.C F x (.tup (ns.map Dt.int)) from kx) with
  | @tup a xs _ h1 r1 =>
    cases (show Rp E.K E.C F y (.tup (ms.map Dt.int)) from ky) with
    | @tup b ys _ h2 r2 =>
      rw [RpL.ints ns r1] at h1
      rw [RpL.ints ms r2] at h2
      exact ⟨a, b, ns, ms, rfl, rfl, SqT.of (w.ex _ _ h1), SqT.of (w.ex _ _ h2), q (.dat (.bl _)) _ F H ⟨_, h, rfl⟩ (Stp.refl w) (Rp.bl _) Fr.dat⟩
theorem ed_ltT {ns ms : List Int} (ha : ED E f a G (.tup (ns.map Dt.int))) (hb : ED E f b G (.tup (ms.map Dt.int))) : ED E f (.Compare a [.Lt] [b] pos) G (.bl (HT.lexLt ns ms)) :=
  (ex_cmp (r := rLtT) (R := bis fun c => c = HT.lexLt ns ms) (fun X hX => op_ltT (by have := hX.un; omega)) ha hb (fun ka kb e1 e2 => by rw [e1, e2]; exact rv_ltT rfl) (nomark _)).edb fun _ h => h
def cutD (xs : List Dt) (lo hi : Option Int) : List Dt := (xs.drop (HT.sIx xs.length 0 lo)).take (HT.sIx xs.length xs.length hi - HT.sIx xs.length 0 lo)
theorem RpL.cut {F : Hp} {xs : List V} {l : List Dt} (r : RpL E.K E.C F xs l) (lo hi : Option Int) : RpL E.K E.C F (cutV xs lo hi) (cutD l lo hi) := by
  unfold cutV cutD
  rw [r.length]
  exact (r.drop _).take _

/-! ### own things changed -/
section
variable {sts rest : List Stmt} {N : List Ki → Prop} {P : Ki → List Ki → Prop}
theorem ownGet {hd : Hd} {B : Bs} {σ : L2.St} {F H : Hp} {i : Nat} {ds : List Dt} (o : Ok E hd B G σ F H) (hG : G[i]? = some (.ol ds)) : ∃ a xs, σ[i]? = some (some (.ref a)) ∧ H a = some (.lst xs) ∧ RpL E.K E.C F xs ds ∧ ∀ p c, hd = some (p, c) → a ≠ p := by
  obtain ⟨v, h1, a, xs, rfl, h2, h3, h4⟩ := o.ty.at hG (fun z => nomatch z)
  exact ⟨a, xs, h1, h2, h3, h4⟩
/-- x.m(e, ..), a method of lists, x an own list -/
theorem s1_lm {m x : Str} {idS : String} {apos cpos xpos : Pos} {ds : List Dt} {Rs : List Ki → Prop} {S : List Ki → List Dt → Prop} {r : V → List V → Hp → VK → Prop} (i : Nat) (slot : Slot "list" m idS) (hty : typeOf (.builtin idS) = pure (.type "method_descriptor")) (hm : ∀ X : Cx, MtR X idS r)
    (ha : AX E f (e :: es) G Rs) (hG : G[i]? = some (.ol ds))
    (hr : ∀ ks, Rs ks → ∀ (F H : Hp) vs a xs, Wd f.hd F H → KsOk E.K E.C f.hd F H ks vs → H a = some (.lst xs) → RpL E.K E.C F xs ds → ∀ Q : VK, (∀ xs' ds', S ks ds' → RpL E.K E.C F xs' ds' → Q .non (upd H a (.lst xs'))) → r (.ref a) vs H Q)
    (hN : f.N[i]? = some x := by rfl) (hv : VisS f.sc x := by first | exact Or.inl rfl | exact Or.inr (Or.inl rfl) | exact Or.inr (Or.inr rfl)) (hd : (x == ("__debug__" : Str)) = false := by decide) (hcd : (x == ("__classdict__" : Str)) = false := by decide)
    (hbase : ∀ env : Env, attributeBase (.Name x xpos) m env (eval (.Name x xpos) env) = eval (.Name x xpos) env := by intro _; rfl)
    (hfew : ∀ env : Env, ((backTo cpos (starEach (e :: es) env)).all (fun x => !x.1) && (backToKw cpos (keywordEach [] env)).all (fun x => x.1.isSome)
      && decide ((e :: es).length + ([] : List Keyword).length + (if ([] : List Keyword).isEmpty then 0 else 1) < 30)) = true := by intro _; rfl)
    (hline : (apos.endLine == cpos.line) = true := by rfl) (hs : ∀ env : Env, starEach (e :: es) env = (false, eval e env) :: starEach es env := by intro _; rfl) (hpl : ∀ env : Env, (backTo cpos (starEach es env)).any (·.1) = false := by intro _; rfl)
    (hsw : ∀ env : Env, swapsWith (.Call (.Attribute (.Name x xpos) m apos) (e :: es) [] cpos) none pos.line env = pure false := by intro _; rfl) :
    S1 E f (.Expr (.Call (.Attribute (.Name x xpos) m apos) (e :: es) [] cpos) pos) G (fun G' => ∃ ks ds', Rs ks ∧ S ks ds' ∧ G' = G.set i (.ol ds')) P := fun X hX => by
  refine ps_w (ps_expr (pe_bm PySem.F.plainAttrs_list slot hty (hm X) (pe_var (i := i) (by rw [hX.N]; exact hN) (by show VisS X.env.scope x; rw [hX.sc]; exact hv) hd hcd) (ha X hX) (hbase _) (hfew _) hline (hs _) (hpl _)) (hsw _)) ?_
  rintro D σ H ⟨B, F, o, n, rt⟩
  obtain ⟨a, xs, h1, h2, h3, h4⟩ := ownGet o hG
  refine ⟨.ref a, h1, .inl ⟨rfl, xs, SqL.of h2⟩, F, o.wd, o.ty, fun ks vs F1 H1 rs s1 q1 => ?_⟩
  have o1 := o.step s1
  have h2' := s1.b a _ h4 h2
  refine hr ks rs F1 H1 vs a xs s1.wd q1 h2' (h3.mono s1.e.1) _ fun xs' ds' hS r' => ?_
  exact n _ σ F1 _ ⟨ks, ds', rs, hS, rfl⟩ (o1.mut hG True.intro h1 h4 True.intro ⟨a, xs', rfl, upd_same, r', h4⟩)
/-- x.append(e) -/
theorem s1_append {x : Str} {apos cpos xpos : Pos} {ds : List Dt} (i : Nat) (he : EX E f e G R) (hR : ∀ k, R k → ∃ d, k = .dat d) (hG : G[i]? = some (.ol ds) := by rfl) (hlen : ds.length < 1000000)
    (hN : f.N[i]? = some x := by rfl) (hv : VisS f.sc x := by first | exact Or.inl rfl | exact Or.inr (Or.inl rfl) | exact Or.inr (Or.inr rfl)) (hd : (x == ("__debug__" : Str)) = false := by decide) (hcd : (x == ("__classdict__" : Str)) = false := by decide)
    (hbase : ∀ env : Env, attributeBase (.Name x xpos) "append" env (eval (.Name x xpos) env) = eval (.Name x xpos) env := by intro _; rfl)
    (hfew : ∀ env : Env, ((backTo cpos (starEach [e] env)).all (fun x => !x.1) && (backToKw cpos (keywordEach [] env)).all (fun x => x.1.isSome)
      && decide (([e] : List Expr).length + ([] : List Keyword).length + (if ([] : List Keyword).isEmpty then 0 else 1) < 30)) = true := by intro _; rfl)
    (hline : (apos.endLine == cpos.line) = true := by rfl) (hs : ∀ env : Env, starEach [e] env = (false, eval e env) :: starEach [] env := by intro _; rfl) (hpl : ∀ env : Env, (backTo cpos (starEach [] env)).any (·.1) = false := by intro _; rfl)
    (hsw : ∀ env : Env, swapsWith (.Call (.Attribute (.Name x xpos) "append" apos) [e] [] cpos) none pos.line env = pure false := by intro _; rfl) :
    S1 E f (.Expr (.Call (.Attribute (.Name x xpos) "append" apos) [e] [] cpos) pos) G (fun G' => ∃ d, R (.dat d) ∧ G' = G.set i (.ol (ds ++ [d]))) P := by
  refine S1.weaken (s1_lm (S := fun ks ds' => ∃ d, ks = [.dat d] ∧ ds' = ds ++ [d]) i PySem.F.slot_list_append PySem.F.type_list_append (fun X => mt_append) (ax_cons he ax_nil hs) hG ?_ hN hv hd hcd hbase hfew hline hs hpl hsw) ?_
  · rintro ks ⟨k, r, rfl, rk, rfl⟩ F H vs a xs w ko hH rp Q q
    obtain ⟨d, rfl⟩ := hR k rk
    cases ko with
    | cons k1 k2 =>
      cases k2
      exact ⟨a, xs, _, rfl, rfl, hH, by rw [rp.length, sizeLine_eq]; omega, q _ _ ⟨d, rfl, rfl⟩ (rp.append (.cons k1 .nil))⟩
  · rintro G' ⟨ks, ds', ⟨k, r, rfl, rk, rfl⟩, ⟨d, e1, rfl⟩, rfl⟩
    cases e1
    exact ⟨d, rk, rfl⟩
/-- x.extend(xs) -/
theorem s1_extend {x : Str} {apos cpos xpos : Pos} {ds l : List Dt} (i : Nat) (he : ED E f e G (.lst l)) (hG : G[i]? = some (.ol ds) := by rfl) (hlen : ds.length + l.length ≤ 1000000)
    (hN : f.N[i]? = some x := by rfl) (hv : VisS f.sc x := by first | exact Or.inl rfl | exact Or.inr (Or.inl rfl) | exact Or.inr (Or.inr rfl)) (hd : (x == ("__debug__" : Str)) = false := by decide) (hcd : (x == ("__classdict__" : Str)) = false := by decide)
    (hbase : ∀ env : Env, attributeBase (.Name x xpos) "extend" env (eval (.Name x xpos) env) = eval (.Name x xpos) env := by intro _; rfl)
    (hfew : ∀ env : Env, ((backTo cpos (starEach [e] env)).all (fun x => !x.1) && (backToKw cpos (keywordEach [] env)).all (fun x => x.1.isSome)
      && decide (([e] : List Expr).length + ([] : List Keyword).length + (if ([] : List Keyword).isEmpty then 0 else 1) < 30)) = true := by intro _; rfl)
    (hline : (apos.endLine == cpos.line) = true := by rfl) (hs : ∀ env : Env, starEach [e] env = (false, eval e env) :: starEach [] env := by intro _; rfl) (hpl : ∀ env : Env, (backTo cpos (starEach [] env)).any (·.1) = false := by intro _; rfl)
    (hsw : ∀ env : Env, swapsWith (.Call (.Attribute (.Name x xpos) "extend" apos) [e] [] cpos) none pos.line env = pure false := by intro _; rfl) :
    S1 E f (.Expr (.Call (.Attribute (.Name x xpos) "extend" apos) [e] [] cpos) pos) G (fun G' => G' = G.set i (.ol (ds ++ l))) P := by
  refine S1.weaken (s1_lm (S := fun ks ds' => ds' = ds ++ l) i PySem.F.slot_list_extend PySem.F.type_list_extend (fun X => mt_extend) (ad_cons he ad_nil hs) hG ?_ hN hv hd hcd hbase hfew hline hs hpl hsw) ?_
  · rintro ks rfl F H vs a xs w ko hH rp Q q
    cases ko with
    | cons k1 k2 =>
      cases k2
      cases (show Rp E.K E.C F _ (.lst l) from k1) with
      | lst h r => exact ⟨a, _, xs, _, rfl, rfl, hH, w.ex _ _ h, by rw [rp.length, r.length, sizeLine_eq]; omega, q _ _ rfl (rp.append r)⟩
  · rintro G' ⟨ks, ds', -, rfl, rfl⟩
    rfl
end
end A8
set_option Elab.async false
set_option linter.all false
set_option maxRecDepth 100000
set_option maxHeartbeats 4000000
namespace A8
open PySem PySem.Spec PyProof.Rows L2

/-! ### t[::-1] of a tuple -/
section
variable {prog : Program} {w : World} {A : Around} {E : Value → Shared → Prop} {s : Shared}
theorem fm_congr {α β : Type} {f g : α → Option β} : ∀ {l : List α}, (∀ x ∈ l, f x = g x) → l.filterMap f = l.filterMap g
  | [], _ => rfl
  | x :: l, h => by
    have h1 := h x List.mem_cons_self
    have h2 := fm_congr (l := l) fun y hy => h y (List.mem_cons_of_mem _ hy)
    rw [List.filterMap_cons, List.filterMap_cons, h1, h2]
theorem pick_rev (items : Array Value) : ((List.range items.size).filterMap fun (m : Nat) => items[(((items.size : Int) - 1) + (m : Int) * (-1)).toNat]?).toArray = items.toList.reverse.toArray := by
  have h := PySem.W.krv_pick items
  unfold slicePick at h
  rw [PySem.W.krv_bounds] at h
  rw [← h]
  show _ = ((sliceRange ((items.size : Int) - 1) (-1) (-1)).filterMap (items[·]?)).toArray
  rw [PySem.W.krv_sliceRange, List.filterMap_map]
  congr 1
  apply fm_congr
  intro m hm
  have := List.mem_range.mp hm
  show _ = items[items.size - 1 - m]?
  congr 1
  omega
theorem applied_rev {sl : Addr} {n : Nat} {vk : Value} (hs : s.heap.IsSliceOf sl .none .none vk) (pk : IsPart vk (some (-1))) {Q' : Int × Int × Nat → Shared → Prop} (h : Q' ((n : Int) - 1, -1, n) s) : wpAny (model prog w) A (Builtin.Slice.sliceApplied (.ref sl) (pure (n : Int))) Q' E s := by
  obtain ⟨os, hos, hcs, hds⟩ := id hs
  unfold Builtin.Slice.sliceApplied Builtin.Slice.sliceFields
  refine wpAny_bind (wpAny_bind (wpAny_field hos hds (x := .none) rfl (wpAny_bind (wpAny_field hos hds (x := .none) rfl (wpAny_bind (wpAny_field hos hds (x := vk) rfl (wpAny_pure ?_)))))))
  refine wpAny_bind (HT.slicePart_ pk ?_)
  show wpAny _ _ (if ((-1 : Int) == 0) = true then _ else _) _ _ s
  rw [if_neg (by decide)]
  refine wpAny_bind (slicePart_none (wpAny_bind (slicePart_none (wpAny_bind (wpAny_pure ?_)))))
  show wpAny _ _ (pure ((n : Int) - 1, (-1 : Int), Builtin.Slice.slicePlaces ((n : Int) - 1) (-1) (-1))) _ _ s
  have e : Builtin.Slice.slicePlaces ((n : Int) - 1) (-1) (-1) = n := by
    unfold Builtin.Slice.slicePlaces
    rw [if_neg (by decide)]
    show (if (n : Int) - 1 > -1 then ((n : Int) - 1 - -1 - 1) / (1 : Int) + 1 else 0).toNat = n
    rw [Int.ediv_one]
    split <;> omega
  rw [e]
  exact wpAny_pure h
theorem getItem_tuple_rev {t sl : Addr} {items : Array Value} {vk : Value} {Q : Value → Shared → Prop} (ht : IsTup s.heap t items) (hs : s.heap.IsSliceOf sl .none .none vk) (pk : IsPart vk (some (-1)))
    (h : Q (.ref s.heap.objs.size) { s with heap := s.heap.push { cls := .type "tuple", data := .seq items.toList.reverse.toArray } }) (hsz : items.size ≤ sizeLine) : wpAny (model prog w) A (getItem (.ref t) (.ref sl)) Q E s := by
  have htake : sizeOk (.seq items.toList.reverse.toArray) := by
    show items.toList.reverse.toArray.size ≤ sizeLine
    rw [List.size_toArray, List.length_reverse, Array.length_toList]
    exact hsz
  obtain ⟨os, hos, hcs, hds⟩ := id hs
  have hTs : s.TypeIs (.ref sl) "slice" := ⟨os, hos, hcs⟩
  unfold getItem
  try with_reducible refine wpAny_holding ?_
  first | refine wpAny_bind (wpAny_pure ?_) | skip
  refine wpAny_bind (wpAny_sequenceKey ht.typeIs (by decide) ?_)
  refine wpAny_bind (wpAny_callSpecial?_slot (name := Str.ofString "__getitem__") ht.typeIs PyProof.Rows.slot_tuple_getitem
    (wpAny_call_entry PyProof.Rows.slot_tuple_getitem ht.typeIs entry_tuple_getitem ?_ (args_tuple_getitem _ _)))
  show wpAny _ _ (Builtin.Tuple.tupleItemsOf (.ref t) >>= _) _ _ s
  refine wpAny_bind (tupleItemsOf_ ht ?_)
  refine wpAny_bind (wpAny_typeOf hTs ?_)
  rw [if_pos (by decide)]
  refine wpAny_bind (applied_rev hs pk ?_)
  show wpAny _ _ (if (((items.size : Int) - 1) == 0 && (-1 : Int) == 1 && items.size == items.size) = true then _ else _) _ _ s
  rw [if_neg (by rw [show ((-1 : Int) == 1) = false from rfl, Bool.and_false, Bool.false_and]; decide), pick_rev]
  first
    | exact wpAny_bind (m := Builtin.Tuple.tupleExact _) (wpAny_newObj_type (wpAny_pure ⟨_, rfl, wpAny_pure h⟩) htake)
    | exact wpAny_bind (m := Builtin.Tuple.tupleExact _) (wpAny_newObj_type (wpAny_bind (wpAny_pure (wpAny_pure ⟨_, rfl, wpAny_pure h⟩))) htake)
    | exact wpAny_bind (wpAny_bind (m := Builtin.Tuple.tupleExact _) (wpAny_newObj_type (wpAny_pure (wpAny_pure ⟨_, rfl, wpAny_pure h⟩)) htake))
    | exact wpAny_bind (wpAny_bind (m := Builtin.Tuple.tupleExact _) (wpAny_newObj_type (wpAny_pure ⟨_, rfl, wpAny_pure h⟩) htake))
end
def tRevT (K : PySem.W.Frag) (te : TE) : TE := fun σ H Q => te σ H fun x H1 => ∃ a xs, x = .ref a ∧ SqT K H1 a xs ∧ ∀ p, H1 p = none → Q (.ref p) (upd H1 p (.tup xs.reverse))
theorem pe_revT {X : Cx} {e : Expr} {te : TE} {k : Nat} {p1 p2 p3 pos : Pos} (he : PE X e te) : PE X (.Subscript e (.Slice none none (some (.UnaryOp .USub (.Constant (.int 1) k p1) p2)) p3) pos) (tRevT X.K te) := by
  refine ⟨fun pins s σ H Q I h => ?_⟩
  refine Subscript_ (thn (he.run pins s σ H _ I h) fun v s1 ⟨x, H1, I1, r1, q1⟩ => ?_)
  obtain ⟨a, xs, ex, hx, q⟩ := q1
  subst ex
  cases r1
  have hst : PO X (some (.UnaryOp .USub (.Constant (.int 1) k p1) p2)) (tPart (tUn (rU fun i => .int (-i)) (tC (.int 1)))) := po_some (pe_un un_neg pe_int)
  refine wpAny_Slice (thn (po_none.run pins s1 σ H1 (fun o H2 => o = none ∧ H2 = H1) I1 ⟨rfl, rfl⟩) fun vl s2 ⟨l, H2, I2, pl, el, e2⟩ => ?_)
  subst el e2
  refine thn (po_none.run pins s2 σ H2 (fun o H3 => o = none ∧ H3 = H2) I2 ⟨rfl, rfl⟩) fun vu s3 ⟨u, H3, I3, pu, eu, e3⟩ => ?_
  subst eu e3
  refine thn (hst.run pins s3 σ H3 (fun o H4 => o = some (-1) ∧ H4 = H3) I3 ⟨1, rfl, -1, rfl, rfl, rfl⟩) fun vs s4 ⟨o, H4, I4, ps, eo, e4⟩ => ?_
  subst eo e4
  cases pl
  cases pu
  have I5 : Inv X pins σ H4 { s4 with heap := s4.heap.push { cls := .type "slice", data := .fields #[.none, .none, vs] } } := I4.kept (t' := s4.toks) fun b ob q => Heap.get?_push_of_some _ q
  obtain ⟨its, r, ht, hz⟩ := I5.tuple hx
  have hlen := r.length
  show wpAny (model X.prog X.w) X.A (subscriptTail e (.Slice none none (some (.UnaryOp .USub (.Constant (.int 1) k p1) p2)) p3) (.ref a) (.ref s4.heap.objs.size)) (EP X pins σ Q) X.xe { s4 with heap := s4.heap.push { cls := .type "slice", data := .fields #[.none, .none, vs] } }
  refine tail_any (ops := [.ref a, .ref s4.heap.objs.size]) ht.typeIs (PyProof.Rows.slot_tuple_getitem.lookup) ?_ (by with_unfolding_all rfl)
  refine getItem_tuple_rev ht (Heap.IsSliceOf.new _ .none .none vs) ps ?_ (by rw [List.size_toArray]; omega)
  refine ⟨.ref _, _, I5.laid (t' := s4.toks) (o := .tup xs.reverse) (fun b ob q => Heap.get?_push_of_some _ q) (Nat.le_refl _) ?_, rfl, q _ (I5.hok.fresh (Nat.le_refl _))⟩
  exact ⟨by rw [List.length_reverse]; exact hz, _, r.reverse, IsTup.new _ _⟩
end A8
set_option Elab.async false
set_option linter.all false
set_option maxRecDepth 100000
set_option maxHeartbeats 4000000
namespace A8
open PySem PySem.Spec PyProof.Rows L2
variable {E : En} {f : Fm} {G : List Ki} {e a b c : Expr} {es : List Expr} {pos p pos' : Pos} {R Ra Rb : Ki → Prop}

/-! ### slices -/
theorem ed_rev {l : List Dt} {k : Nat} {p1 p2 p3 : Pos} (ha : ED E f a G (.tup l)) : ED E f (.Subscript a (.Slice none none (some (.UnaryOp .USub (.Constant (.int 1) k p1) p2)) p3) pos) G (.tup l.reverse) := fun X hX => by
  have ek : X.K = E.K := by obtain ⟨C, rfl⟩ := hX.en; rfl
  refine pe_w (pe_revT (ha X hX)) ?_
  rw [ek]
  rintro σ H Q ⟨F, w, t, q⟩
  refine ⟨F, w, t, ?_⟩
  rintro k v F1 H1 rfl s1 kv -
  cases (show Rp E.K E.C F1 v (.tup l) from kv) with
  | @tup a xs _ h r =>
    refine ⟨a, xs, rfl, SqT.of (s1.wd.ex _ _ h), fun p hp => ?_⟩
    have s2 := Stp.new (o := .tup xs.reverse) s1.wd hp
    exact q _ _ _ _ rfl (s1.trans s2) (Rp.tup upd_same (r.mono s2.e.1).reverse) Fr.dat
theorem rp_slice {hd : Hd} {F H : Hp} {v : V} {l : List Dt} {lo hi : Option Int} (w : Wd hd F H) (h : Rp E.K E.C F v (.tup l)) (Q : VK) (q : ∀ v' F' H', Stp hd F H F' H' → Rp E.K E.C F' v' (.tup (cutD l lo hi)) → Q v' H') : rSlA E.K v lo hi H Q := by
  cases h with
  | @tup a xs _ h r =>
    refine ⟨a, xs, rfl, SqT.of (w.ex _ _ h), fun z => ?_, fun _ p hp => ?_⟩
    · have e : cutD l lo hi = l := by
        unfold cutD
        rw [← r.length, z.1, z.2, List.drop_zero, Nat.sub_zero, r.length, List.take_length]
      exact q _ F H (Stp.refl w) (by rw [e]; exact Rp.tup h r)
    · have s2 := Stp.new (o := .tup (cutV xs lo hi)) w hp
      exact q _ _ _ s2 (Rp.tup upd_same ((r.mono s2.e.1).cut lo hi))
/-- a[:i], a[i:] -/
theorem ed_slTo {l : List Dt} {i : Int} {p2 : Pos} (ha : ED E f a G (.tup l)) (hb : ED E f b G (.int i)) : ED E f (.Subscript a (.Slice none (some b) none p2) pos) G (.tup (cutD l none (some i))) := fun X hX => by
  have ek : X.K = E.K := by obtain ⟨C, rfl⟩ := hX.en; rfl
  refine pe_w (pe_slice sl_tupA (ha X hX) po_none (po_some (hb X hX))) ?_
  rw [ek]
  rintro σ H Q ⟨F, w, t, q⟩
  refine ⟨F, w, t, ?_⟩
  rintro k v F1 H1 rfl s1 kv -
  refine ⟨F1, s1.wd, t.mono s1, ?_⟩
  rintro k2 v2 F2 H2 rfl s2 kv2 -
  rw [ko_int kv2]
  refine ⟨i, rfl, rp_slice s2.wd ((show Rp E.K E.C F1 v (.tup l) from kv).mono s2.e.1) _ fun v' F' H' s3 r => q _ v' F' H' rfl ((s1.trans s2).trans s3) r Fr.dat⟩
theorem ed_slFrom {l : List Dt} {i : Int} {p2 : Pos} (ha : ED E f a G (.tup l)) (hb : ED E f b G (.int i)) : ED E f (.Subscript a (.Slice (some b) none none p2) pos) G (.tup (cutD l (some i) none)) := fun X hX => by
  have ek : X.K = E.K := by obtain ⟨C, rfl⟩ := hX.en; rfl
  refine pe_w (pe_slice sl_tupA (ha X hX) (po_some (hb X hX)) po_none) ?_
  rw [ek]
  rintro σ H Q ⟨F, w, t, q⟩
  refine ⟨F, w, t, ?_⟩
  rintro k v F1 H1 rfl s1 kv -
  refine ⟨F1, s1.wd, t.mono s1, ?_⟩
  rintro k2 v2 F2 H2 rfl s2 kv2 -
  rw [ko_int kv2]
  refine ⟨i, rfl, rp_slice s2.wd ((show Rp E.K E.C F1 v (.tup l) from kv).mono s2.e.1) _ fun v' F' H' s3 r => q _ v' F' H' rfl ((s1.trans s2).trans s3) r Fr.dat⟩
theorem cut_to {l : List Dt} {n : Nat} : cutD l none (some (n : Int)) = l.take n := by
  unfold cutD
  rw [HT.sIx_none, HT.sIx_nat, List.drop_zero, Nat.sub_zero]
  by_cases h : n ≤ l.length
  · rw [Nat.min_eq_left h]
  · rw [Nat.min_eq_right (by omega), List.take_length, List.take_of_length_le (by omega)]
theorem cut_from {l : List Dt} {n : Nat} : cutD l (some (n : Int)) none = l.drop n := by
  unfold cutD
  rw [HT.sIx_none, HT.sIx_nat]
  by_cases h : n ≤ l.length
  · rw [Nat.min_eq_left h, List.take_of_length_le (by rw [List.length_drop]; exact Nat.le_refl _)]
  · rw [Nat.min_eq_right (by omega), List.drop_of_length_le (by omega), List.drop_of_length_le (by omega), List.take_nil]

/-! ### fields of a System -/
theorem ed_many {n : Int} {l : List Dt} (cl : Cls E.K E.C) (na : NoAttr E.K E.C "many") (ha : ED E f a G (.sys n l)) (hb : ∀ env : Env, attributeBase a "many" env (eval a env) = eval a env := by intro _; rfl) : ED E f (.Attribute a "many" pos) G (.int n) := fun X hX => by
  refine pe_w (pe_fld (ha X hX) (hb _)) ?_
  have ek : X.K = E.K := by obtain ⟨C, rfl⟩ := hX.en; rfl
  rw [ek]
  rintro σ H Q ⟨F, w, t, q⟩
  refine ⟨F, w, t, ?_⟩
  rintro k v F1 H1 rfl s1 kv -
  cases (show Rp E.K E.C F1 v (.sys n l) from kv) with
  | sys h r => exact ⟨_, _, _, _, _, rfl, s1.wd.ex _ _ h, cl, na, rfl, q (.dat (.int n)) _ F1 H1 rfl s1 (Rp.int _) Fr.dat⟩
theorem ed_moves {n : Int} {l : List Dt} (cl : Cls E.K E.C) (na : NoAttr E.K E.C "moves") (ha : ED E f a G (.sys n l)) (hb : ∀ env : Env, attributeBase a "moves" env (eval a env) = eval a env := by intro _; rfl) : ED E f (.Attribute a "moves" pos) G (.tup l) := fun X hX => by
  refine pe_w (pe_fld (ha X hX) (hb _)) ?_
  have ek : X.K = E.K := by obtain ⟨C, rfl⟩ := hX.en; rfl
  rw [ek]
  rintro σ H Q ⟨F, w, t, q⟩
  refine ⟨F, w, t, ?_⟩
  rintro k v F1 H1 rfl s1 kv -
  cases (show Rp E.K E.C F1 v (.sys n l) from kv) with
  | sys h r => exact ⟨_, _, _, _, _, rfl, s1.wd.ex _ _ h, cl, na, rfl, q (.dat (.tup l)) _ F1 H1 rfl s1 r Fr.dat⟩

/-! ### x[i] = e of own lists -/
section
variable {sts rest : List Stmt} {N : List Ki → Prop} {P : Ki → List Ki → Prop}
theorem ixN_of {n : Nat} {j : Nat} (h : j < n) (hn : n ≤ 1000000) : ixN n (j : Int) = some j := by
  unfold ixN
  simp [h, line63]
  try omega
theorem s1_setAt {x : Str} {xpos tpos : Pos} {ds : List Dt} (i : Nat) {P' : Int → Prop} (he : EX E f e G R) (hR : ∀ k, R k → ∃ d, k = .dat d) (hb : EI E f b G P') (hP : ∀ j, P' j → 0 ≤ j ∧ j < ds.length) (hG : G[i]? = some (.ol ds) := by rfl) (hlen : ds.length ≤ 1000000)
    (hN : f.N[i]? = some x := by rfl) (hv : VisS f.sc x := by first | exact Or.inl rfl | exact Or.inr (Or.inl rfl) | exact Or.inr (Or.inr rfl)) (hd : (x == ("__debug__" : Str)) = false := by decide) (hcd : (x == ("__classdict__" : Str)) = false := by decide)
    (hs : ∀ env : Env, swapsWithSole [.Subscript (.Name x xpos) b tpos] e pos.line env = pure false := by intro _; rfl) (hw : ∀ env : Env, swappedStores [.Subscript (.Name x xpos) b tpos] e env = pure none := by intro _; rfl)
    (h1 : ∀ env : Env, (assignEach [.Subscript (.Name x xpos) b tpos] env).map (·.2) = [assign (.Subscript (.Name x xpos) b tpos) env] := by intro _; rfl)
    (hsub : ∀ (env : Env) v, assign (.Subscript (.Name x xpos) b tpos) env v = (do
      let ov ← holding [v] (eval (.Name x xpos) env)
      let iv ← holding [v, ov] (eval b env)
      standAt tpos
      holding [v, ov, iv] (setItem ov iv v)
      release [v, ov, iv] []) := by intro _ _; rfl) :
    S1 E f (.Assign [.Subscript (.Name x xpos) b tpos] e pos) G (fun G' => ∃ d j, R (.dat d) ∧ P' (j : Nat) ∧ G' = G.set i (.ol (ds.set j d))) P := fun X hX => by
  refine ps_w (ps_asg (he X hX) (pg_sub (pe_var (i := i) (by rw [hX.N]; exact hN) (by show VisS X.env.scope x; rw [hX.sc]; exact hv) hd hcd) (hb X hX) set_list (hsub _)) (hs _) (hw _) (h1 _)) ?_
  rintro D σ H ⟨B, F, o, n, rt⟩
  refine ⟨F, o.wd, o.ty, fun k v F1 H1 rk s1 kv fr => ?_⟩
  obtain ⟨d, rfl⟩ := hR k rk
  have o1 := o.step s1
  obtain ⟨a, xs, g1, g2, g3, g4⟩ := ownGet o1 hG
  refine ⟨.ref a, g1, F1, o1.wd, o1.ty, ?_⟩
  rintro k2 v2 F2 H2 ⟨j, pj, rfl⟩ s2 kv2 -
  rw [ko_int kv2]
  obtain ⟨q1, q2⟩ := hP j pj
  obtain ⟨m, rfl⟩ := Int.eq_ofNat_of_zero_le q1
  have o2 := o1.step s2
  have g2' := s2.b a _ g4 g2
  refine ⟨a, xs, _, m, rfl, rfl, g2', ixN_of (by rw [g3.length]; omega) (by rw [g3.length]; exact hlen), ?_⟩
  refine n _ σ F2 _ ⟨d, m, rk, pj, rfl⟩ (o2.mut hG True.intro g1 g4 True.intro ⟨a, _, rfl, upd_same, ?_, g4⟩)
  exact RpL.set ((show Rp E.K E.C F1 v d from kv).mono s2.e.1) m (g3.mono s2.e.1)
/-- .. of a list at a known address -/
theorem s1_setAtA {x : Str} {xpos tpos : Pos} {D : Addr} {ds : List Dt} {d : Dt} (i j : Nat) {kk : Nat} {bpos : Pos} (he : ED E f e G d) (hG : G[i]? = some (.la D ds) := by rfl) (hj : j < ds.length) (hlen : ds.length ≤ 1000000)
    (hN : f.N[i]? = some x := by rfl) (hv : VisS f.sc x := by first | exact Or.inl rfl | exact Or.inr (Or.inl rfl) | exact Or.inr (Or.inr rfl)) (hd : (x == ("__debug__" : Str)) = false := by decide) (hcd : (x == ("__classdict__" : Str)) = false := by decide)
    (hs : ∀ env : Env, swapsWithSole [.Subscript (.Name x xpos) (.Constant (.int (j : Int)) kk bpos) tpos] e pos.line env = pure false := by intro _; rfl) (hw : ∀ env : Env, swappedStores [.Subscript (.Name x xpos) (.Constant (.int (j : Int)) kk bpos) tpos] e env = pure none := by intro _; rfl)
    (h1 : ∀ env : Env, (assignEach [.Subscript (.Name x xpos) (.Constant (.int (j : Int)) kk bpos) tpos] env).map (·.2) = [assign (.Subscript (.Name x xpos) (.Constant (.int (j : Int)) kk bpos) tpos) env] := by intro _; rfl)
    (hsub : ∀ (env : Env) v, assign (.Subscript (.Name x xpos) (.Constant (.int (j : Int)) kk bpos) tpos) env v = (do
      let ov ← holding [v] (eval (.Name x xpos) env)
      let iv ← holding [v, ov] (eval (.Constant (.int (j : Int)) kk bpos) env)
      standAt tpos
      holding [v, ov, iv] (setItem ov iv v)
      release [v, ov, iv] []) := by intro _ _; rfl) :
    S1 E f (.Assign [.Subscript (.Name x xpos) (.Constant (.int (j : Int)) kk bpos) tpos] e pos) G (fun G' => G' = G.set i (.la D (ds.set j d))) P := fun X hX => by
  refine ps_w (ps_asg (he X hX) (pg_sub (pe_var (i := i) (by rw [hX.N]; exact hN) (by show VisS X.env.scope x; rw [hX.sc]; exact hv) hd hcd) pe_int set_list (hsub _)) (hs _) (hw _) (h1 _)) ?_
  rintro D' σ H ⟨B, F, o, n, rt⟩
  refine ⟨F, o.wd, o.ty, ?_⟩
  rintro k v F1 H1 rfl s1 kv fr
  have o1 := o.step s1
  obtain ⟨v0, g1, rfl, xs, g2, g3, g4⟩ := o1.ty.at hG (fun z => nomatch z)
  refine ⟨.ref D, g1, D, xs, _, j, rfl, rfl, g2, ixN_of (by rw [g3.length]; omega) (by rw [g3.length]; exact hlen), ?_⟩
  exact n _ σ F1 _ rfl (o1.mut hG True.intro g1 g4 True.intro ⟨rfl, _, upd_same, RpL.set kv j g3, g4⟩)
/-- x[j] of a list at a known address -/
theorem ed_atA {x : Str} {xpos : Pos} {D : Addr} {ds : List Dt} {d : Dt} (i : Nat) {j : Nat} (hb : ED E f b G (.int (j : Int))) (hj : atI ds j = some d) (hG : G[i]? = some (.la D ds) := by rfl)
    (hN : f.N[i]? = some x := by rfl) (hv : VisS f.sc x := by first | exact Or.inl rfl | exact Or.inr (Or.inl rfl) | exact Or.inr (Or.inr rfl)) (hd : (x == ("__debug__" : Str)) = false := by decide) (hcd : (x == ("__classdict__" : Str)) = false := by decide) (hs : PlainIx b := by intro _ _; rfl) : ED E f (.Subscript (.Name x xpos) b pos) G d :=
  ed_ixV (l := ds) (ex_k (k := .vl ds) i hN hG (fun z => nomatch z) (fun z => z) (fun hd F H v h => by obtain ⟨e, xs, h1, h2, h3⟩ := h; exact ⟨D, xs, e, h1, h2, h3⟩) hv hd hcd) hb hj hs
end
end A8
set_option Elab.async false
set_option linter.all false
set_option maxRecDepth 100000
set_option maxHeartbeats 4000000
namespace A8
open PySem PySem.Spec PyProof.Rows L2
variable {E : En} {f : Fm} {G : List Ki} {e a b c : Expr} {es : List Expr} {pos p pos' : Pos} {R Ra Rb : Ki → Prop}
/-- a tuple of naturals -/
def nt (ns : List Nat) : Dt := .tup (ns.map fun n : Nat => .int (n : Int))
theorem nt_ints (ns : List Nat) : ns.map (fun n : Nat => Dt.int (n : Int)) = (ns.map fun n : Nat => (n : Int)).map Dt.int := by rw [List.map_map]; rfl
theorem kN_inj : ∀ {k k' : List Nat}, k.map kN = k'.map kN → k = k'
  | [], [], _ => rfl
  | [], _ :: _, h => by simp at h
  | _ :: _, [], h => by simp at h
  | n :: k, m :: k', h => by
    rw [List.map_cons, List.map_cons] at h
    have h1 := (List.cons.inj h).1
    have h2 := kN_inj (List.cons.inj h).2
    have h3 : (n : Int) = (m : Int) := Sum.inl.inj h1
    rw [h2, Int.ofNat.inj h3]
theorem Rp.key {hd : Hd} {F H : Hp} {v : V} {ns : List Nat} (w : Wd hd F H) (h : Rp E.K E.C F v (nt ns)) : ∃ b, v = .ref b ∧ H b = some (.tup ((ns.map kN).map kV)) := by
  cases (show Rp E.K E.C F v (.tup (ns.map fun n : Nat => .int (n : Int))) from h) with
  | @tup a xs _ h0 r =>
    rw [nt_ints] at r
    rw [RpL.ints _ r] at h0
    refine ⟨a, rfl, ?_⟩
    rw [w.ex _ _ h0, List.map_map, List.map_map]
    rfl
/-! ### own dicts -/
def dget (kvs : List (List Nat × Dt)) (k : List Nat) : Option Dt := (kvs.find? fun kv => decide (kv.1 = k)).map (·.2)
theorem dget_nil {k : List Nat} : dget [] k = none := rfl
theorem dget_cons {p : List Nat × Dt} {r : List (List Nat × Dt)} {k : List Nat} : dget (p :: r) k = if p.1 = k then some p.2 else dget r k := by
  unfold dget
  rw [List.find?_cons]
  by_cases h : p.1 = k
  · simp [h]
  · simp [h]
theorem DRp.val {F : Hp} {k : List Nat} : ∀ {vs : List (List Key × V)} {kvs : List (List Nat × Dt)}, DRp E.K E.C F vs kvs → (dget kvs k = none → valV vs (k.map kN) = none) ∧ ∀ d, dget kvs k = some d → ∃ v, valV vs (k.map kN) = some v ∧ Rp E.K E.C F v d
  | _, _, .nil => ⟨fun _ => rfl, fun d h => by cases h⟩
  | _, _, .cons (k := k') (d := d') r t => by
    obtain ⟨i1, i2⟩ := DRp.val (k := k) t
    rw [dget_cons]
    by_cases h : k' = k
    · subst h
      rw [if_pos rfl]
      refine ⟨fun z => (nomatch z), fun d z => ?_⟩
      cases z
      exact ⟨_, valV_pos rfl, r⟩
    · have h' : ¬ k'.map kN = k.map kN := fun z => h (kN_inj z)
      rw [if_neg h]
      exact ⟨fun z => by rw [valV_neg h']; exact i1 z, fun d z => by
        obtain ⟨v, v1, v2⟩ := i2 d z
        exact ⟨v, by rw [valV_neg h']; exact v1, v2⟩⟩
theorem DRp.snoc {F : Hp} {k : List Nat} {v : V} {d : Dt} (h : Rp E.K E.C F v d) : ∀ {vs : List (List Key × V)} {kvs : List (List Nat × Dt)}, DRp E.K E.C F vs kvs → DRp E.K E.C F (vs ++ [(k.map kN, v)]) (kvs ++ [(k, d)])
  | _, _, .nil => .cons h .nil
  | _, _, .cons r t => .cons r (DRp.snoc h t)
theorem putK_new {vs : List (List Key × V)} {k : List Key} {v : V} (h : valV vs k = none) : putK vs k v = vs ++ [(k, v)] := by
  unfold putK
  rw [valV_any, h]
  rfl
theorem ed_dget {kvs : List (List Nat × Dt)} {ns : List Nat} {d : Dt} (ha : EX E f a G (fun k => k = .vd kvs)) (hb : ED E f b G (nt ns)) (h : dget kvs ns = some d) (hs : NoSl b := by intro _ _; rfl) : ED E f (.Subscript a b pos) G d := fun X hX => by
  refine pe_w (pe_dget (by have := hX.un; omega) (ha X hX) (hb X hX) hs) ?_
  rintro σ H Q ⟨F, w, t, q⟩
  refine ⟨F, w, t, ?_⟩
  rintro k v F1 H1 rfl s1 kv -
  refine ⟨F1, s1.wd, t.mono s1, ?_⟩
  rintro k2 v2 F2 H2 rfl s2 kv2 -
  obtain ⟨a, vs, rfl, h1, h2, h3⟩ := kv.mono s2
  obtain ⟨b, rfl, eb⟩ := Rp.key s2.wd kv2
  obtain ⟨v, g1, g2⟩ := (h2.val (k := ns)).2 d h
  exact ⟨a, v, rfl, by rw [← g1]; exact DGet.t h1 eb, q (.dat d) v F2 H2 rfl (s1.trans s2) g2 Fr.dat⟩
theorem dget_at {hd : Hd} {F H : Hp} {v v2 : V} {kvs : List (List Nat × Dt)} {ns : List Nat} (w : Wd hd F H) (kv : Ko E hd F H (.vd kvs) v) (kv2 : Rp E.K E.C F v2 (nt ns)) : ∃ a o, v = .ref a ∧ DGet H a v2 o ∧ o.isSome = (dget kvs ns).isSome := by
  obtain ⟨a, vs, rfl, h1, h2, h3⟩ := kv
  obtain ⟨b, rfl, eb⟩ := Rp.key w kv2
  refine ⟨a, _, rfl, DGet.t h1 eb, ?_⟩
  cases q : dget kvs ns with
  | none => rw [(h2.val (k := ns)).1 q]; rfl
  | some d =>
    obtain ⟨v, g1, g2⟩ := (h2.val (k := ns)).2 d q
    rw [g1]
    rfl
/-- k not in d -/
theorem td_dnotin {kvs : List (List Nat × Dt)} {ns : List Nat} (hb : ED E f b G (nt ns)) (ha : EX E f a G (fun k => k = .vd kvs)) (hm : behindInMarks .NotIn a = false := by rfl) : TD E f (.Compare b [.NotIn] [a] pos) G (!(dget kvs ns).isSome) := fun X hX => by
  refine pt_w (pt_cmp (pc_dnotin (by have := hX.un; omega) (hb X hX) (ha X hX)) hm) ?_
  rintro σ H Q ⟨F, w, t, q⟩
  refine ⟨F, w, t, ?_⟩
  rintro k v F1 H1 rfl s1 kv -
  refine ⟨F1, s1.wd, t.mono s1, ?_⟩
  rintro k2 v2 F2 H2 rfl s2 kv2 -
  obtain ⟨a, o, rfl, h1, h2⟩ := dget_at s2.wd kv2 ((show Rp E.K E.C F1 v (nt ns) from kv).mono s2.e.1)
  exact ⟨a, o, rfl, h1, _, rfl, q _ F2 H2 (by rw [h2]) (s1.trans s2)⟩
/-- {t: v}, a new dict -/
theorem eo_disp {ns : List Nat} {d : Dt} (ha : ED E f a G (nt ns)) (hb : ED E f b G d) : EX E f (.Dict [some a] [b] pos) G (fun k => k = .od [(ns, d)]) := fun X hX => by
  refine pe_w (pe_dispT (by have := hX.un; omega) (ha X hX) (hb X hX)) ?_
  rintro σ H Q ⟨F, w, t, q⟩ p hp
  have s0 := Stp.own (o := .dT []) w hp
  refine ⟨F, s0.wd, t.mono s0, ?_⟩
  rintro k v F1 H1 rfl s1 kv -
  refine ⟨F1, s1.wd, (t.mono s0).mono s1, ?_⟩
  rintro k2 v2 F2 H2 rfl s2 kv2 -
  have np := w.ne hp
  have s12 := s1.trans s2
  have e2 : H2 p = some (.dT []) := s12.b p _ np upd_same
  have f2 : F2 p = none := s12.lack upd_same (w.ex.none hp)
  obtain ⟨b, rfl, eb⟩ := Rp.key s2.wd ((show Rp E.K E.C F1 v (nt ns) from kv).mono s2.e.1)
  refine ⟨e2, ns.map kN, b, rfl, eb, ?_⟩
  refine q (.od [(ns, d)]) (.ref p) F2 _ rfl ((s0.trans s12).mut hp f2 np) ⟨p, _, rfl, upd_same, .cons kv2 .nil, np⟩ fun _ a e => ?_
  cases e
  exact ⟨hp, f2⟩
section
variable {sts rest : List Stmt} {N : List Ki → Prop} {P : Ki → List Ki → Prop}
/-- d[k] = v, k new -/
theorem s1_dput {x : Str} {xpos tpos : Pos} {kvs : List (List Nat × Dt)} {ns : List Nat} {d : Dt} (i : Nat) (he : ED E f e G d) (hb : ED E f b G (nt ns)) (hn : dget kvs ns = none) (hlen : kvs.length < 1000000) (hG : G[i]? = some (.od kvs) := by rfl)
    (hN : f.N[i]? = some x := by rfl) (hv : VisS f.sc x := by first | exact Or.inl rfl | exact Or.inr (Or.inl rfl) | exact Or.inr (Or.inr rfl)) (hd : (x == ("__debug__" : Str)) = false := by decide) (hcd : (x == ("__classdict__" : Str)) = false := by decide)
    (hs : ∀ env : Env, swapsWith e (some (.Subscript (.Name x xpos) b tpos)) pos.line env = pure false := by intro _; rfl) :
    S1 E f (.Assign [.Subscript (.Name x xpos) b tpos] e pos) G (fun G' => G' = G.set i (.od (kvs ++ [(ns, d)]))) P := fun X hX => by
  refine ps_w (ps_dput (by have := hX.un; omega) (pe_var (i := i) (by rw [hX.N]; exact hN) (by show VisS X.env.scope x; rw [hX.sc]; exact hv) hd hcd) (hb X hX) (he X hX) (hs _)) ?_
  rintro D σ H ⟨B, F, o, n, rt⟩
  refine ⟨F, o.wd, o.ty, ?_⟩
  rintro k v F1 H1 rfl s1 kv -
  have o1 := o.step s1
  obtain ⟨v0, g1, a, vs, rfl, g2, g3, g4⟩ := o1.ty.at hG (fun z => nomatch z)
  refine ⟨.ref a, g1, F1, o1.wd, o1.ty, ?_⟩
  rintro k2 v2 F2 H2 rfl s2 kv2 -
  have o2 := o1.step s2
  obtain ⟨b, rfl, eb⟩ := Rp.key s2.wd kv2
  have g2' := s2.b a _ g4 g2
  have g3' := g3.mono s2.e.1
  refine ⟨a, _, rfl, DPut.t g2' eb (by rw [g3.length, sizeLine_eq]; omega), ?_⟩
  rw [putK_new ((g3'.val (k := ns)).1 hn)]
  exact n _ σ F2 _ rfl (o2.mut hG True.intro g1 g4 True.intro ⟨a, _, rfl, upd_same, g3'.snoc ((show Rp E.K E.C F1 v d from kv).mono s2.e.1), g4⟩)
/-- x.append(y.pop(e)), x and y own lists -/
theorem s1_appPop {x y : Str} {apos cpos xpos apos2 cpos2 ypos : Pos} {ds l : List Dt} (i j : Nat) {P' : Int → Prop} (he : EI E f e G P') (hP : ∀ k, P' k → 0 ≤ k ∧ k < l.length) (hij : i ≠ j) (hG : G[i]? = some (.ol ds) := by rfl) (hG2 : G[j]? = some (.ol l) := by rfl) (hlen : ds.length < 1000000) (hlen2 : l.length ≤ 1000000)
    (hN : f.N[i]? = some x := by rfl) (hN2 : f.N[j]? = some y := by rfl) (hv : VisS f.sc x := by first | exact Or.inl rfl | exact Or.inr (Or.inl rfl) | exact Or.inr (Or.inr rfl)) (hv2 : VisS f.sc y := by first | exact Or.inl rfl | exact Or.inr (Or.inl rfl) | exact Or.inr (Or.inr rfl))
    (hd : (x == ("__debug__" : Str)) = false := by decide) (hcd : (x == ("__classdict__" : Str)) = false := by decide) (hd2 : (y == ("__debug__" : Str)) = false := by decide) (hcd2 : (y == ("__classdict__" : Str)) = false := by decide)
    (hbase2 : ∀ env : Env, attributeBase (.Name y ypos) "pop" env (eval (.Name y ypos) env) = eval (.Name y ypos) env := by intro _; rfl)
    (hfew2 : ∀ env : Env, ((backTo cpos2 (starEach [e] env)).all (fun x => !x.1) && (backToKw cpos2 (keywordEach [] env)).all (fun x => x.1.isSome)
      && decide (([e] : List Expr).length + ([] : List Keyword).length + (if ([] : List Keyword).isEmpty then 0 else 1) < 30)) = true := by intro _; rfl)
    (hline2 : (apos2.endLine == cpos2.line) = true := by rfl) (hs2 : ∀ env : Env, starEach [e] env = (false, eval e env) :: starEach [] env := by intro _; rfl) (hpl2 : ∀ env : Env, (backTo cpos2 (starEach [] env)).any (·.1) = false := by intro _; rfl)
    (hbase : ∀ env : Env, attributeBase (.Name x xpos) "append" env (eval (.Name x xpos) env) = eval (.Name x xpos) env := by intro _; rfl)
    (hfew : ∀ env : Env, ((backTo cpos (starEach [.Call (.Attribute (.Name y ypos) "pop" apos2) [e] [] cpos2] env)).all (fun x => !x.1) && (backToKw cpos (keywordEach [] env)).all (fun x => x.1.isSome)
      && decide (([.Call (.Attribute (.Name y ypos) "pop" apos2) [e] [] cpos2] : List Expr).length + ([] : List Keyword).length + (if ([] : List Keyword).isEmpty then 0 else 1) < 30)) = true := by intro _; rfl)
    (hline : (apos.endLine == cpos.line) = true := by rfl) (hs : ∀ env : Env, starEach [.Call (.Attribute (.Name y ypos) "pop" apos2) [e] [] cpos2] env = (false, eval (.Call (.Attribute (.Name y ypos) "pop" apos2) [e] [] cpos2) env) :: starEach [] env := by intro _; rfl) (hpl : ∀ env : Env, (backTo cpos (starEach [] env)).any (·.1) = false := by intro _; rfl)
    (hsw : ∀ env : Env, swapsWith (.Call (.Attribute (.Name x xpos) "append" apos) [.Call (.Attribute (.Name y ypos) "pop" apos2) [e] [] cpos2] [] cpos) none pos.line env = pure false := by intro _; rfl) :
    S1 E f (.Expr (.Call (.Attribute (.Name x xpos) "append" apos) [.Call (.Attribute (.Name y ypos) "pop" apos2) [e] [] cpos2] [] cpos) pos) G (fun G' => ∃ (k : Nat) (d : Dt), P' (k : Int) ∧ l[k]? = some d ∧ G' = (G.set j (.ol (l.eraseIdx k))).set i (.ol (ds ++ [d]))) P := fun X hX => by
  have px := pe_var (X := X) (pos := xpos) (i := i) (by rw [hX.N]; exact hN) (by show VisS X.env.scope x; rw [hX.sc]; exact hv) hd hcd
  have py := pe_var (X := X) (pos := ypos) (i := j) (by rw [hX.N]; exact hN2) (by show VisS X.env.scope y; rw [hX.sc]; exact hv2) hd2 hcd2
  have pp := pe_bm PySem.F.plainAttrs_list PySem.F.slot_list_pop PySem.F.type_list_pop mt_popAt py (pa_cons (he X hX) pa_nil (hs2 _)) (hbase2 _) (hfew2 _) hline2 (hs2 _) (hpl2 _)
  refine ps_w (ps_expr (pe_bm PySem.F.plainAttrs_list PySem.F.slot_list_append PySem.F.type_list_append mt_append px (pa_cons pp pa_nil (hs _)) (hbase _) (hfew _) hline (hs _) (hpl _)) (hsw _)) ?_
  rintro D σ H ⟨B, F, o, n, rt⟩
  obtain ⟨a, xs, h1, h2, h3, h4⟩ := ownGet o hG
  obtain ⟨a', ys, k1, k2, k3, k4⟩ := ownGet o hG2
  refine ⟨.ref a, h1, .inl ⟨rfl, xs, SqL.of h2⟩, .ref a', k1, .inl ⟨rfl, ys, SqL.of k2⟩, F, o.wd, o.ty, ?_⟩
  rintro k v F1 H1 ⟨m, pm, rfl⟩ s1 kv -
  rw [ko_int kv]
  obtain ⟨q1, q2⟩ := hP m pm
  obtain ⟨m, rfl⟩ := Int.eq_ofNat_of_zero_le q1
  have o1 := o.step s1
  have h2' := s1.b a _ h4 h2
  have k2' := s1.b a' _ k4 k2
  have hm : m < l.length := by omega
  have hy : l[m]? = some l[m] := List.getElem?_eq_getElem hm
  have k3' := k3.mono s1.e.1
  obtain ⟨w, hw, rw'⟩ := k3'.get hy
  have o2 := o1.mut (k' := .ol (l.eraseIdx m)) hG2 True.intro k1 k4 True.intro ⟨a', _, rfl, upd_same, k3'.eraseIdx m, k4⟩
  have na : a ≠ a' := fun z => hij (o.dis i j _ _ a hG hG2 True.intro True.intro h1 (z ▸ k1))
  refine ⟨a', ys, _, m, w, rfl, rfl, k2', by omega, by omega, by rw [k3.length]; exact seqIndex_of (by omega) (by omega), hw, ?_⟩
  refine ⟨a, xs, w, rfl, rfl, by rw [upd_ne na]; exact h2', by rw [h3.length, sizeLine_eq]; omega, ?_⟩
  have hGi : (G.set j (.ol (l.eraseIdx m)))[i]? = some (.ol ds) := by rw [List.getElem?_set_ne (Ne.symm hij)]; exact hG
  exact n _ σ F1 _ ⟨m, l[m], pm, hy, rfl⟩ (o2.mut hGi True.intro h1 h4 True.intro ⟨a, _, rfl, upd_same, (h3.mono s1.e.1).append (.cons rw' .nil), h4⟩)
end
end A8
set_option Elab.async false
set_option linter.all false
set_option maxRecDepth 100000
set_option maxHeartbeats 8000000
namespace A8
open PySem PySem.Spec PyProof.Rows L2
abbrev newSet (w : World) : Obj := { cls := .type "set", dict := none, data := .set #[] 0 (.fresh 0 0 (!w.params.followText "set-order")) }
section
variable {P : Program} {w : World} {A : Around} {E : Value → Shared → Prop} {s : Shared}
/-- what the loop over the items must do -/
def SetLoop (P : Program) (w : World) (A : Around) (s : Shared) (items : Array Value) (K : Heap → Prop) : Prop :=
  ∀ (A' : Around) (I : Addr) (fp : List Addr) (St : Nat → Shared → Prop) (s1 : Shared) (R : Result → Shared → Prop), A'.handled = none → A'.units ≤ A.units + 4 → WalksS P w A'.in1 I fp [I] (fun a b => b = a) items.size (fun i v => items[i]? = some v) St →
    s.heap.objs.size ∉ fp → s.heap.objs.size < I → St 0 s1 → (∀ b o, s.heap.get? b = some o → s1.heap.get? b = some o) → s1.heap.get? s.heap.objs.size = some (newSet w) →
    (∀ s', Moved [s.heap.objs.size, I] (fun a b => b = a) s1 s' → K s'.heap → R (.ok (.ret .none)) s') → codeAny (model P w) A' (.builtin "set.update.loop" ⟨[.ref s.heap.objs.size, .ref I], []⟩) R s1
set_option maxRecDepth 100000 in
theorem set_of {l : Addr} {items : Array Value} {K : Heap → Prop} {Q : Value → Shared → Prop} (hh : A.handled = none) (hl : s.heap.IsList l items ∨ s.heap.IsTuple l items) (hloop : SetLoop P w A s items K)
    (h : ∀ (h' : Heap) (tk : Nat), K h' → (∀ b o, s.heap.get? b = some o → h'.get? b = some o) → Q (.ref s.heap.objs.size) { s with heap := h', toks := tk }) :
    wpAny (model P w) A (call (.type "set") [.ref l]) Q E s := by
  obtain ⟨c, tl, hmro⟩ := F.called_set.mro
  have hmade := F.called_set.made
  have hsub := F.called_set.sub
  refine wpAny_call (codeAny_of_tree ?_)
  show wpAny _ _ (callAny (.type "set") _) _ _ _
  refine wpAny_pure ⟨Code.quiet_builtin _ (by decide +kernel), codeAny_builtin F.entry_type_call ?_⟩
  rw [Around.under_plain (weight_type_call_type "set" [.ref l] []) rfl]
  have h1 := F.called_set.notType
  have h2 := F.called_set.canCreate
  have hct := F.typeCall_set_1 (.ref l)
  repeat (any_goals (first | assumption | wp_step))
  refine codeAny_mono (code_set_led1 (.ref l) (E := E) (Q₁ := fun obj s₁ => obj = .ref s.heap.objs.size ∧ s₁ = { s with heap := s.heap.push (newSet w) }) ⟨rfl, rfl⟩) fun r s₁ hr => ?_
  cases r with
  | error e => exact hr
  | ok fl =>
    cases fl with
    | ret obj =>
      obtain ⟨rfl, rfl⟩ := hr
      have hS : (s.heap.push (newSet w)).get? s.heap.objs.size = some (newSet w) := Heap.get?_push_size _ rfl
      have hT : Shared.TypeIs { s with heap := s.heap.push (newSet w) } (.ref s.heap.objs.size) "set" := ⟨_, hS, rfl⟩
      have hli := F.called_set.init.lookup
      have hbi := F.called_set.init.bind (.ref s.heap.objs.size)
      repeat (any_goals (first | assumption | wp_step))
      have hz1 : (s.heap.push (newSet w)).objs.size = s.heap.objs.size + 1 := Heap.size_push ..
      have fin : ∀ (A' : Around) (I : Addr) (o : Obj), I = (s.heap.push (newSet w)).objs.size → A'.handled = none → A'.units ≤ A.units + 4 → ∀ (fp : List Addr) (St : Nat → Shared → Prop), WalksS P w A'.in1 I fp [I] (fun a b => b = a) items.size (fun i v => items[i]? = some v) St → s.heap.objs.size ∉ fp →
          St 0 { s with heap := (s.heap.push (newSet w)).push o } → codeAny (model P w) A' (.builtin "set.update.loop" ⟨[.ref s.heap.objs.size, .ref I], []⟩) (fun r s₂ => r = .ok (.ret .none) ∧ ∃ h' tk, s₂ = { s with heap := h', toks := tk } ∧ K h' ∧ (∀ b o, s.heap.get? b = some o → h'.get? b = some o)) { s with heap := (s.heap.push (newSet w)).push o } := by
        intro A' I o hI ha hu fp St W hSf st
        refine hloop A' I fp St _ _ ha hu W hSf (by rw [hI, hz1]; exact Nat.lt_succ_self _) st (fun b o e => Heap.get?_push_of_some _ (Heap.get?_push_of_some _ e)) (Heap.get?_push_of_some _ hS) fun s' hm hK => ?_
        obtain ⟨h', g2, d', tk', os'⟩ := s'
        have eg : g2 = s.gens := hm.gens
        have ed : d' = s.drawn := hm.drawn
        have eo : os' = s.os := hm.os
        subst eg; subst ed; subst eo
        refine ⟨rfl, h', tk', rfl, hK, fun b o e => ?_⟩
        have hb0 : b < s.heap.objs.size := Heap.lt_size e
        exact hm.heap b o (by simp only [List.mem_cons, List.mem_singleton, List.not_mem_nil, or_false, not_or]; exact ⟨Nat.ne_of_lt hb0, by rw [hI, hz1]; exact Nat.ne_of_lt (Nat.lt_succ_of_lt hb0)⟩) (Heap.get?_push_of_some _ (Heap.get?_push_of_some _ e))
      refine codeAny_mono (codeAny_call_builtin (R := wants (fun r s₂ => r = .none ∧ ∃ h' tk, s₂ = { s with heap := h', toks := tk } ∧ K h' ∧
          (∀ b o, s.heap.get? b = some o → h'.get? b = some o)) E) F.called_set.init.plain F.entry_set_init (check_set_init_1 hT ?_)) fun r₂ s₂ hr₂ => ?_
      · have hne : (Value.type "list" == Value.type "dict") = false := by decide
        have hne2 : (Value.type "tuple" == Value.type "dict") = false := by decide
        rcases hl with hl | hl
        · obtain ⟨⟨ocls, odict, odata, oslots⟩, hol, hcl, nl, hdl⟩ := hl
          simp only at hcl hdl
          subst hcl; subst hdl
          have hol' : (s.heap.push (newSet w)).get? l = some { cls := .type "list", dict := odict, data := .seq items nl, slots := oslots } := Heap.get?_push_of_some _ hol
          have hsls := F.sub_list_set
          have hslf := F.sub_list_frozenset
          have hl1 : (s.heap.push (newSet w)).IsList l items := ⟨_, hol', rfl, nl, rfl⟩
          have hlS : l < s.heap.objs.size := Heap.lt_size hol
          unfold Builtin.«set.__init__» noKeywords Builtin.Frozenset.updateFrom
          generalize hPI : pyIter = PI
          wp_walk
          subst hPI
          refine wpAny_pyIter_list hl1 ?_
          refine wpAny_bind (wpAny_runValue ?_)
          have hh3 : A.in1.in1.in1.handled = none := by simp [hh]
          have hneI : l ≠ (s.heap.push (newSet w)).objs.size := by rw [hz1]; exact Nat.ne_of_lt (Nat.lt_succ_of_lt hlS)
          refine codeAny_mono (fin _ _ _ rfl (by simp [hh]) (by simp [Around.in1] <;> omega) _ _ (Walks.list hh3 _ l hneI items).toS (by
            rw [hz1]; simp only [List.mem_cons, List.mem_singleton, List.not_mem_nil, or_false, not_or]
            exact ⟨Nat.ne_of_lt (Nat.lt_succ_self _), Nat.ne_of_gt hlS⟩) ⟨⟨_, Heap.get?_push_size _ rfl, rfl, rfl⟩, (hl1.push _)⟩) fun r s2 hr => ?_
          obtain ⟨rfl, h', tk, rfl, hK, hk⟩ := hr
          show wpAny _ _ _ _ _ _
          refine wpAny_pure ?_
          show wpAny _ _ (ret Value.none) _ _ _
          exact wpAny_pure ⟨rfl, h', tk, rfl, hK, hk⟩
        · obtain ⟨⟨ocls, odict, odata, oslots⟩, hol, hcl, nl, hdl⟩ := hl
          simp only at hcl hdl
          subst hcl; subst hdl
          have hol' : (s.heap.push (newSet w)).get? l = some { cls := .type "tuple", dict := odict, data := .seq items nl, slots := oslots } := Heap.get?_push_of_some _ hol
          have hsls := F.sub_tuple_set
          have hslf := F.sub_tuple_frozenset
          have hl1 : (s.heap.push (newSet w)).IsTuple l items := ⟨_, hol', rfl, nl, rfl⟩
          have hlS : l < s.heap.objs.size := Heap.lt_size hol
          unfold Builtin.«set.__init__» noKeywords Builtin.Frozenset.updateFrom
          generalize hPI : pyIter = PI
          wp_walk
          subst hPI
          refine wpAny_pyIter_tuple hl1 ?_
          refine wpAny_bind (wpAny_runValue ?_)
          have hh3 : A.in1.in1.in1.handled = none := by simp [hh]
          have hneI : l ≠ (s.heap.push (newSet w)).objs.size := by rw [hz1]; exact Nat.ne_of_lt (Nat.lt_succ_of_lt hlS)
          refine codeAny_mono (fin _ _ _ rfl (by simp [hh]) (by simp [Around.in1] <;> omega) _ _ (Walks.tuple hh3 _ l hneI items).toS (by
            rw [hz1]; simp only [List.mem_cons, List.mem_singleton, List.not_mem_nil, or_false, not_or]
            exact ⟨Nat.ne_of_lt (Nat.lt_succ_self _), Nat.ne_of_gt hlS⟩) ⟨⟨_, Heap.get?_push_size _ rfl, rfl, rfl⟩, (hl1.push _)⟩) fun r s2 hr => ?_
          obtain ⟨rfl, h', tk, rfl, hK, hk⟩ := hr
          show wpAny _ _ _ _ _ _
          refine wpAny_pure ?_
          show wpAny _ _ (ret Value.none) _ _ _
          exact wpAny_pure ⟨rfl, h', tk, rfl, hK, hk⟩
      · cases r₂ with
        | error e => exact hr₂
        | ok fl₂ =>
          cases fl₂ with
          | ret r =>
            obtain ⟨rfl, h', tk, rfl, hK, hk'⟩ := hr₂
            repeat (any_goals (first | assumption | wp_step))
            exact h _ _ hK hk'
          | _ => exact hr₂.elim
    | _ => exact hr.elim
/-- a set of ints -/
theorem set_ints {l : Addr} {items : Array Value} (ns : List Int) {Q : Value → Shared → Prop} (hh : A.handled = none) (hl : s.heap.IsList l items ∨ s.heap.IsTuple l items) (hit : IntsAre items.toList ns) (hb : ns.length + 1 < scanBound)
    (h : ∀ (h' : Heap) (tk c : Nat), SetR w h' s.heap.objs.size (fun j => decide (j ∈ ns)) c → c ≤ ns.length → (∀ b o, s.heap.get? b = some o → h'.get? b = some o) → Q (.ref s.heap.objs.size) { s with heap := h', toks := tk }) :
    wpAny (model P w) A (call (.type "set") [.ref l]) Q E s := by
  have hisz : items.size = ns.length := by
    have q := IntsAre.length hit
    rw [Array.length_toList] at q
    exact q
  refine set_of (K := fun h' => ∃ c, SetR w h' s.heap.objs.size (fun j => decide (j ∈ ns)) c ∧ c ≤ ns.length) hh hl (fun A' I fp St s1 R ha hu W hSf hI st hk hS hR => ?_) fun h' tk ⟨c, h1, h2⟩ hk => h h' tk c h1 h2 hk
  have hval : ∀ (i : Nat) (v : Value), items[i]? = some v → ∃ k t, ns[i]? = some k ∧ v = .int k t := fun i v hv => by
    have hi : i < ns.length := by rw [← hisz]; exact (Array.getElem?_eq_some_iff.mp hv).1
    obtain ⟨t, e⟩ := PyProof.Rows.IntsAre.int_at hit i v (by rw [Array.getElem?_toList]; exact hv)
    refine ⟨ns[i], t, List.getElem?_eq_getElem hi, ?_⟩
    rw [e, List.getD_eq_getElem?_getD, List.getElem?_eq_getElem hi] <;> rfl
  exact set_update_ints W s.heap.objs.size hSf ns hisz hb hval (items.size - 0) 0 s1 (by omega) (Nat.zero_le _) st ⟨0, Nat.le_refl 0, setR_new_at hS⟩ fun s' c hm hc hS' => hR s' hm ⟨c, hS', by omega⟩
end
end A8
set_option Elab.async false
set_option linter.all false
set_option maxRecDepth 100000
set_option maxHeartbeats 4000000
namespace A8
open PySem PySem.Spec PyProof.Rows L2
open PySem.W (EachIs AllAlike Sortable SortsAt dataKind dataKind_some dataKind_inv dataLe dataLt keyToks)
/-! ### sorted, min of data -/
section
variable {prog : Program} {w : World} {A : Around} {s : Shared}
theorem keyLt_general (x y : Value) : keyLt' general' x y = oneLt' false x y := rfl
theorem sortsAt_one {v : Value} {d : PyData} {ds : List PyData} (hds : ds = [d]) (r : ∃ as, Reads s.heap v d as) (hd : d ≠ .none) (al : PySem.W.alike d d = true) (hu : A.units + d.depth < cLine) : SortsAt prog w A s (dataKind s.heap ds) [v] := by
  subst hds
  have hal : AllAlike [d] := fun a ha b hb => by rw [List.mem_singleton.mp ha, List.mem_singleton.mp hb]; exact al
  refine ⟨fun u hu => ?_, general', ?_, fun h2 => absurd h2 (by simp)⟩
  · obtain ⟨as, r⟩ := r
    rw [List.mem_singleton.mp hu]
    exact ⟨_, dataKind_some hal (List.mem_singleton.mpr rfl) r⟩
  · intro E x y a b Q ha hb hq
    obtain ⟨d1, as, h1, ra, rfl⟩ := dataKind_inv ha
    obtain ⟨d2, as', h2, rb, rfl⟩ := dataKind_inv hb
    rw [List.mem_singleton.mp h1] at ra hq
    rw [List.mem_singleton.mp h2] at rb hq
    rw [keyLt_general]
    refine PySem.W.oneLt_alike (fun z => absurd z (by decide)) ra rb al hd ?_ hq
    rw [Nat.min_self]
    exact hu
/-- what can be sorted -/
def CanSort (ds : List PyData) : Prop := AllAlike ds ∧ (Sortable ds ∨ ∃ d, ds = [d] ∧ d ≠ .none)
theorem sorted_can {β : Type} {vs : List Value} {bs : List β} {enc : β → PyData} {R : Value → β → Prop} {E : Value → Shared → Prop} {l : Addr} {Q : Value → Shared → Prop} (hl : s.heap.IsList l vs.toArray) (e : EachIs R vs bs) (er : EachIs (fun v b => ∃ as, Reads s.heap v (enc b) as) vs bs) (hk : CanSort (bs.map enc)) (hL : bs.length ≤ sizeLine)
    (hu : ∀ b, b ∈ bs → A.units + 2 + (enc b).depth < cLine) (h : ∀ out, out.length = bs.length → EachIs R out (bs.mergeSort (dataLe false enc)) → Q (.ref (s.heap.objs.size + 1)) { s with heap := sortedAll s.heap vs (List.toArray out) }) :
    wpAny (model prog w) A (call (.builtin "sorted") [.ref l]) Q E s := by
  obtain ⟨hal, hk | ⟨d, hd, hn⟩⟩ := hk
  · exact PySem.W.sorted_data hl e er hal hk hL hu h
  · cases bs with
    | nil => cases hd
    | cons b bs =>
      cases bs with
      | cons _ _ => cases hd
      | nil =>
      have hlen : vs.length = 1 := e.length
      obtain ⟨v0, rfl⟩ := List.length_eq_one_iff.mp hlen
      have e1 : R v0 b := e.zip (v0, b) (List.mem_cons_self)
      have r1 := er.zip (v0, b) (List.mem_cons_self)
      have hb : enc b = d := (List.cons.inj hd).1
      have r1' : ∃ as, Reads (PySem.W.sortingHeap (PySem.W.copyHeap s.heap [v0]) (s.heap.objs.size + 1) [v0]) v0 (enc b) as := by
        obtain ⟨as, r⟩ := r1
        exact ⟨as, PyProof.Rows.Reads.keeps (fun _ _ => PySem.W.sorting_copy_old) r⟩
      have S : SortsAt prog w A.in1.in1 { s with heap := PySem.W.sortingHeap (PySem.W.copyHeap s.heap [v0]) (s.heap.objs.size + 1) [v0] } (dataKind (PySem.W.sortingHeap (PySem.W.copyHeap s.heap [v0]) (s.heap.objs.size + 1) [v0]) ([b].map enc)) [v0] :=
        sortsAt_one (s := { s with heap := PySem.W.sortingHeap (PySem.W.copyHeap s.heap [v0]) (s.heap.objs.size + 1) [v0] }) rfl r1' (by rw [hb]; exact hn) (hal _ (List.mem_cons_self) _ (List.mem_cons_self)) (hu b (List.mem_cons_self))
      exact PySem.W.sorted_vals hl S hL (h (PySem.W.sortVals (dataKind (PySem.W.sortingHeap (PySem.W.copyHeap s.heap [v0]) (s.heap.objs.size + 1) [v0]) ([b].map enc)) false [v0] [v0]) (PySem.W.sortVals_length false rfl)
        (PySem.W.sortVals_data (h' := PySem.W.sortingHeap (PySem.W.copyHeap s.heap [v0]) (s.heap.objs.size + 1) [v0]) false (.cons e1 .nil) (.cons r1' .nil) hal))
end
section
variable {X : Cx}
inductive PairV : List Value → List (V × PyData) → Prop where
  | nil : PairV [] []
  | cons {u : Value} {x : V} {d : PyData} {us : List Value} {zs : List (V × PyData)} : RelV x u → PairV us zs → PairV (u :: us) ((x, d) :: zs)
/-- sorted(xs): zs the items, as values and as data -/
def rSortD (K : PySem.W.Frag) : List V → Hp → VK → Prop := fun vs H Q => ∃ (a : Addr) (zs : List (V × PyData)), vs = [V.ref a] ∧ SqL K H a (zs.map (·.1)) ∧ (∀ z ∈ zs, Dp K H z.1 z.2 ∧ z.2.depth ≤ 64) ∧ CanSort (zs.map (·.2)) ∧ zs.length ≤ 1000000 ∧
  ∀ p, H p = none → Q (.ref p) (upd H p (.lst ((zs.mergeSort (dataLe false fun z => z.2)).map (·.1))))
theorem each_zip {Rr : Value → (V × PyData) → Prop} (i : ∀ u (z : V × PyData), RelV z.1 u → Rr u z) : ∀ {zs : List (V × PyData)} {us : List Value}, Vals (zs.map (·.1)) us → EachIs (fun u z => RelV z.1 u ∧ z ∈ zs) us zs
  | [], _, h => by cases h; exact .nil
  | z :: zs, _, h => by
    rw [List.map_cons] at h
    cases h with
    | cons r t => exact .cons ⟨r, List.mem_cons_self⟩ ((each_zip i t).mono fun _ _ q => ⟨q.1, List.mem_cons_of_mem _ q.2⟩)
theorem each_vals : ∀ {zs : List (V × PyData)} {us : List Value}, EachIs (fun u (z : V × PyData) => RelV z.1 u) us zs → Vals (zs.map (·.1)) us
  | _, _, .nil => .nil
  | _, _, .cons h t => .cons h (each_vals t)
theorem cr_sortedD (hu : X.A.units + 100 < cLine) : CallR X (.builtin "sorted") (rSortD X.K) := by
  intro pins s σ H vs us Q I r h
  obtain ⟨a, zs, rfl, hs, hz, hk, hl, q⟩ := h
  obtain ⟨its, rv, ls, hsz⟩ := I.list hs
  rw [Vals.ref1 r]
  have ez := each_zip (Rr := fun _ _ => True) (fun _ _ _ => trivial) rv
  refine sorted_can (bs := zs) (enc := fun z => z.2) (R := fun u z => RelV z.1 u) ls.isList (ez.mono fun _ _ q => q.1) (ez.mono fun u z q => ?_) hk (by rw [sizeLine_eq]; omega) (fun b hb => by have := (hz b hb).2; omega) fun out ho eo => ?_
  · exact Dp.reads I z.2 z.1 u (hz z q.2).1 q.1
  · obtain ⟨c, hc⟩ := sortedAll_at s.heap its out.toArray
    have hn : H (s.heap.objs.size + 1) = none := I.hok.fresh (Nat.le_succ _)
    have hv := each_vals eo
    refine ⟨.ref (s.heap.objs.size + 1), _, I.laid (t' := s.toks) (o := .lst ((zs.mergeSort (dataLe false fun z => z.2)).map (·.1))) (fun b u e => sortedAll_old e) (Nat.le_succ _) ?_, rfl, q _ hn⟩
    exact ⟨by rw [List.length_map, List.length_mergeSort, sizeLine_eq]; omega, out, c, hv, hc⟩
/-- min(xs): xs data, alike; the least -/
def rMinD (K : PySem.W.Frag) : List V → Hp → VK → Prop := fun vs H Q => ∃ (a : Addr) (xs : List V) (d : PyData) (ds : List PyData), vs = [V.ref a] ∧ SqL K H a xs ∧ DpAll K H xs (d :: ds) ∧ PySem.W.AlikeAll (d :: ds) ∧ PyData.depthAll (d :: ds) ≤ 64 ∧
  ∀ (i : Nat) v, xs[i]? = some v → (d :: ds)[i]? = some (PySem.W.minD d ds) → Q v H
theorem minD_mem (d : PyData) : ∀ ds : List PyData, PySem.W.minD d ds ∈ d :: ds := by
  intro ds
  unfold PySem.W.minD
  induction ds generalizing d with
  | nil => exact List.mem_cons_self
  | cons x ds ih =>
    rw [List.foldl_cons]
    have h := ih (if dataLt x d then x else d)
    rcases List.mem_cons.mp h with h | h
    · rw [h]
      split
      · exact List.mem_cons_of_mem _ List.mem_cons_self
      · exact List.mem_cons_self
    · exact List.mem_cons_of_mem _ (List.mem_cons_of_mem _ h)
theorem cr_minD (hc : X.calm = true) (hu : X.A.units + 100 < cLine) : CallR X (.builtin "min") (rMinD X.K) := by
  intro pins s σ H vs us Q I r h
  obtain ⟨a, xs, d, ds, rfl, hs, hd, hal, hdp, q⟩ := h
  obtain ⟨its, rv, ls, hsz⟩ := I.list hs
  obtain ⟨as, ra⟩ := Dp.readsAll I (d :: ds) xs its hd rv
  rw [Vals.ref1 r]
  refine PySem.W.min_list_data (I.ok.hd hc) ls.isList (by simpa using ra) hal (by omega) fun i v h' tk bs hv hr hk => ?_
  have hv' : its[i]? = some v := by simpa using hv
  obtain ⟨as1, r1, hi, hm, _⟩ := PySem.W.readsAll_atA (vs := its.toArray) (by simpa using ra) i v hv
  have hx : i < xs.length := by rw [rv.length]; exact (List.getElem?_eq_some_iff.mp hv').1
  have hxe : xs[i]? = some xs[i] := List.getElem?_eq_getElem hx
  obtain ⟨u, hu', ru⟩ := rv.get hxe
  rw [hv'] at hu'
  cases hu'
  have e : (d :: ds).getD i .none = PySem.W.minD d ds := PySem.W.alike_unique _ _ _ _ _ (hal.1 _ hm _ (minD_mem d ds)) (PyProof.Rows.Reads.keeps hk r1) hr
  refine ⟨xs[i], H, I.kept (t' := tk) hk, ru, q i xs[i] hxe ?_⟩
  rw [← e, List.getElem?_eq_getElem hi, List.getD_eq_getElem?_getD, List.getElem?_eq_getElem hi]
  rfl
/-- set(xs) of ints -/
def rSetI (K : PySem.W.Frag) (w : World) : List V → Hp → VK → Prop := fun vs H Q => ∃ (a : Addr) (ns : List Int), vs = [V.ref a] ∧ (SqL K H a (ns.map V.int) ∨ SqT K H a (ns.map V.int)) ∧ ns.length < 1000 ∧
  ∀ p c, c ≤ ns.length → H p = none → Q (.ref p) (upd H p (SetO w p (fun j => decide (j ∈ ns)) c))
theorem cr_setI (hc : X.calm = true) : CallR X (.type "set") (rSetI X.K X.w) := by
  intro pins s σ H vs us Q I r h
  obtain ⟨a, ns, rfl, hs, hl, q⟩ := h
  rw [Vals.ref1 r]
  have fin : ∀ its : List Value, Vals (ns.map V.int) its → (s.heap.IsList a its.toArray ∨ s.heap.IsTuple a its.toArray) → wpAny (model X.prog X.w) X.A (call (.type "set") [.ref a]) (EP X pins σ Q) X.xe s := fun its rv hl2 => by
    refine set_ints ns (I.ok.hd hc) hl2 (by simpa using intsAre_of rv) (by unfold scanBound; omega) fun h' tk c R hcn hk => ?_
    exact ⟨.ref s.heap.objs.size, _, I.laid (t' := tk) (o := SetO X.w s.heap.objs.size (fun j => decide (j ∈ ns)) c) hk (Nat.le_refl _) (setO_new R), rfl, q _ c hcn (I.hok.fresh (Nat.le_refl _))⟩
  rcases hs with hs | hs
  · obtain ⟨its, rv, ls, hsz⟩ := I.list hs
    exact fin its rv (.inl ls.isList)
  · obtain ⟨its, rv, ls, hsz⟩ := I.tuple hs
    exact fin its rv (.inr ls)
/-- len(set of ints) -/
def rLenSet (w : World) : List V → Hp → VK → Prop := fun vs H Q => ∃ (a : Addr) (S : Int → Bool) (c : Nat), vs = [V.ref a] ∧ H a = some (SetO w a S c) ∧ ∀ ms : List Int, ms.Nodup → (∀ k, k ∈ ms ↔ S k = true) → ms.length = c → Q (.int c) H
theorem cr_lenSet : CallR X (.builtin "len") (rLenSet X.w) := by
  intro pins s σ H vs us Q I r h
  obtain ⟨a, S, c, rfl, ha, q⟩ := h
  rw [Vals.ref1 r]
  obtain ⟨o, es, ep, t, ho, hex, hd, hg, hnd, hS, hb, hf, hn, _⟩ := setO_get I ha
  refine call_len_set ho hex hd hf (by rw [scanBound] at hb; omega) ⟨.int c, H, I.tok _, ⟨_, by rw [hn]⟩, q (es.toList.map keyOf) hnd (fun k => (hS k).symm) (by rw [List.length_map, Array.length_toList, hn])⟩
end
end A8
set_option Elab.async false
set_option linter.all false
set_option maxRecDepth 100000
set_option maxHeartbeats 1000000
namespace A8
open PySem PySem.Spec PyProof.Rows L2
variable {E : En} {f : Fm} {G : List Ki} {e a b c : Expr} {es : List Expr} {pos p pos' : Pos} {R Ra Rb : Ki → Prop}
/-- the members below 12, upwards -/
def lot (ns : List Nat) : List Nat := (List.range 12).filter fun n => decide (n ∈ ns)
theorem mem_lot {ns : List Nat} (h : ∀ n ∈ ns, n < 12) {n : Nat} : n ∈ lot ns ↔ n ∈ ns := by
  unfold lot
  rw [List.mem_filter, List.mem_range, decide_eq_true_eq]
  exact ⟨fun z => z.2, fun z => ⟨h n z, z⟩⟩
theorem lot_asc (ns : List Nat) : (lot ns).Pairwise (· < ·) := List.Pairwise.filter _ List.pairwise_lt_range
theorem asc_eq {α : Type} (lt : α → α → Prop) (irr : ∀ x, ¬ lt x x) (asym : ∀ x y, lt x y → ¬ lt y x) : ∀ {l m : List α}, l.Pairwise lt → m.Pairwise lt → (∀ x, x ∈ l ↔ x ∈ m) → l = m
  | [], [], _, _, _ => rfl
  | [], y :: m, _, _, h => absurd ((h y).mpr List.mem_cons_self) (by simp)
  | x :: l, [], _, _, h => absurd ((h x).mp List.mem_cons_self) (by simp)
  | x :: l, y :: m, h1, h2, h => by
    rw [List.pairwise_cons] at h1 h2
    have e : x = y := by
      rcases List.mem_cons.mp ((h x).mp List.mem_cons_self) with q | q
      · exact q
      · rcases List.mem_cons.mp ((h y).mpr List.mem_cons_self) with q' | q'
        · exact q'.symm
        · exact absurd (h1.1 y q') (asym _ _ (h2.1 x q))
    subst e
    rw [asc_eq lt irr asym h1.2 h2.2 fun z => ?_]
    have hz := h z
    rw [List.mem_cons, List.mem_cons] at hz
    constructor
    · intro hm
      rcases hz.mp (.inr hm) with q | q
      · rw [q] at hm
        exact absurd (h1.1 x hm) (irr x)
      · exact q
    · intro hm
      rcases hz.mpr (.inr hm) with q | q
      · rw [q] at hm
        exact absurd (h2.1 x hm) (irr x)
      · exact q
theorem ints_lot {ns : List Nat} (h : ∀ n ∈ ns, n < 12) {l : List Int} (hp : l.Pairwise (· < ·)) (hm : ∀ k : Int, k ∈ l ↔ decide (k ∈ ns.map fun n : Nat => (n : Int)) = true) : l = (lot ns).map fun n : Nat => (n : Int) := by
  refine asc_eq (· < ·) (fun x => by omega) (fun x y => by omega) hp ?_ fun k => ?_
  · rw [List.pairwise_map]
    exact (lot_asc ns).imp fun {a b} h => by omega
  · rw [hm, decide_eq_true_eq, List.mem_map, List.mem_map]
    exact ⟨fun ⟨n, h1, h2⟩ => ⟨n, (mem_lot h).mpr h1, h2⟩, fun ⟨n, h1, h2⟩ => ⟨n, (mem_lot h).mp h1, h2⟩⟩
def natsD (ns : List Nat) : List Dt := ns.map fun n : Nat => .int (n : Int)
theorem nt_def (ns : List Nat) : nt ns = .tup (natsD ns) := rfl
theorem natsD_ints (ns : List Nat) : natsD ns = (ns.map fun n : Nat => (n : Int)).map Dt.int := nt_ints ns
/-- a set of ints is at hand -/
theorem pe_setI {X : Cx} {ta : TE} {p pos : Pos} {a : Expr} (hc : X.calm = true) (hg : Gl X "set") (hm : X.mg "set" = none) (ha : PE X a ta) (he : starEach [a] X.env = (false, eval a X.env) :: starEach [] X.env) : PE X (.Call (.Name "set" p) [a] [] pos) (tCB (rSetI X.K X.w) (tCons ta tNil)) :=
  pe_callTy (cr_setI hc) hg hm (by decide +kernel) (pa_cons ha pa_nil he) (by decide) (by decide) he rfl
section
variable (B : Bt E.mg)
include B
/-- sorted(set(a)): the naturals of a, upwards -/
theorem ed_sortedSet {ns : List Nat} {d : Dt} {q1 q2 : Pos} (ha : ED E f a G d) (hd : d = .lst (natsD ns) ∨ d = nt ns) (h12 : ∀ n ∈ ns, n < 12) (hl : ns.length < 64) (hg : GlS f.sc "sorted" := by rfl) (hg2 : GlS f.sc "set" := by rfl) (hs : ∀ env : Env, starEach [a] env = (false, eval a env) :: starEach [] env := by intro _; rfl)
    (hs2 : ∀ env : Env, starEach [.Call (.Name "set" q1) [a] [] q2] env = (false, eval (.Call (.Name "set" q1) [a] [] q2) env) :: starEach [] env := by intro _; rfl) : ED E f (.Call (.Name "sorted" p) [.Call (.Name "set" q1) [a] [] q2] [] pos) G (.lst (natsD (lot ns))) := fun X hX => by
  have g := hX.gl hg
  have g2 := hX.gl hg2
  have hm : X.mg "sorted" = none ∧ X.mg "set" = none := by
    obtain ⟨C, rfl⟩ := hX.en
    exact ⟨B.sorted, B.set⟩
  have ek : X.K = E.K := by obtain ⟨C, rfl⟩ := hX.en; rfl
  refine pe_w (pe_callB (cr_sortedSet hX.calm) g hm.1 (by decide +kernel) (pa_cons (pe_setI hX.calm g2 hm.2 (ha X hX) (hs _)) pa_nil (hs2 _)) (by decide) (by decide) (hs2 _) rfl) ?_
  rw [ek]
  rintro σ H Q ⟨F, w, t, q⟩
  refine ⟨F, w, t, ?_⟩
  rintro k v F1 H1 rfl s1 kv -
  have sq : ∃ a, v = .ref a ∧ (SqL E.K H1 a ((ns.map fun n : Nat => (n : Int)).map V.int) ∨ SqT E.K H1 a ((ns.map fun n : Nat => (n : Int)).map V.int)) := by
    rcases hd with rfl | rfl
    · cases (show Rp E.K E.C F1 v (.lst (natsD ns)) from kv) with
      | @lst a xs _ h0 r =>
        rw [natsD_ints] at r
        rw [RpL.ints _ r] at h0
        exact ⟨a, rfl, .inl (SqL.of (s1.wd.ex _ _ h0))⟩
    · cases (show Rp E.K E.C F1 v (.tup (natsD ns)) from kv) with
      | @tup a xs _ h0 r =>
        rw [natsD_ints] at r
        rw [RpL.ints _ r] at h0
        exact ⟨a, rfl, .inr (SqT.of (s1.wd.ex _ _ h0))⟩
  obtain ⟨a, rfl, hq⟩ := sq
  refine ⟨a, _, rfl, hq, by rw [List.length_map]; omega, fun p1 c hc hp1 => ?_⟩
  rw [List.length_map] at hc
  have s2 := Stp.own (o := SetO X.w p1 (fun j => decide (j ∈ ns.map fun n : Nat => (n : Int))) c) s1.wd hp1
  refine ⟨p1, _, c, rfl, upd_same, by omega, fun l p2 hl1 hl2 hl3 hp2 => ?_⟩
  have e := ints_lot h12 hl1 hl2
  subst e
  have s3 := Stp.new (o := .lst (((lot ns).map fun n : Nat => (n : Int)).map V.int)) s2.wd hp2
  refine q _ _ _ _ rfl ((s1.trans s2).trans s3) (Rp.lst upd_same ?_) Fr.dat
  rw [natsD_ints]
  exact RpL.of_ints _
/-- len(set(a)) -/
theorem ed_lenSet {ns : List Nat} {q1 q2 : Pos} (ha : ED E f a G (nt ns)) (h12 : ∀ n ∈ ns, n < 12) (hl : ns.length < 64) (hg : GlS f.sc "len" := by rfl) (hg2 : GlS f.sc "set" := by rfl) (hs : ∀ env : Env, starEach [a] env = (false, eval a env) :: starEach [] env := by intro _; rfl)
    (hs2 : ∀ env : Env, starEach [.Call (.Name "set" q1) [a] [] q2] env = (false, eval (.Call (.Name "set" q1) [a] [] q2) env) :: starEach [] env := by intro _; rfl) : ED E f (.Call (.Name "len" p) [.Call (.Name "set" q1) [a] [] q2] [] pos) G (.int (lot ns).length) := fun X hX => by
  have g := hX.gl hg
  have g2 := hX.gl hg2
  have hm : X.mg "len" = none ∧ X.mg "set" = none := by
    obtain ⟨C, rfl⟩ := hX.en
    exact ⟨B.len, B.set⟩
  have ek : X.K = E.K := by obtain ⟨C, rfl⟩ := hX.en; rfl
  refine pe_w (pe_callB cr_lenSet g hm.1 (by decide +kernel) (pa_cons (pe_setI hX.calm g2 hm.2 (ha X hX) (hs _)) pa_nil (hs2 _)) (by decide) (by decide) (hs2 _) rfl) ?_
  rw [ek]
  rintro σ H Q ⟨F, w, t, q⟩
  refine ⟨F, w, t, ?_⟩
  rintro k v F1 H1 rfl s1 kv -
  cases (show Rp E.K E.C F1 v (.tup (natsD ns)) from kv) with
  | @tup a xs _ h0 r =>
    rw [natsD_ints] at r
    rw [RpL.ints _ r] at h0
    refine ⟨a, _, rfl, .inr (SqT.of (s1.wd.ex _ _ h0)), by rw [List.length_map]; omega, fun p1 c hc hp1 => ?_⟩
    have s2 := Stp.own (o := SetO X.w p1 (fun j => decide (j ∈ ns.map fun n : Nat => (n : Int))) c) s1.wd hp1
    refine ⟨p1, _, c, rfl, upd_same, fun ms h1 h2 h3 => ?_⟩
    have e : c = (lot ns).length := by
      rw [← h3, ← List.length_map (as := lot ns) (fun n : Nat => (n : Int))]
      refine List.Perm.length_eq ((List.perm_ext_iff_of_nodup h1 ?_).mpr fun k => ?_)
      · rw [List.nodup_iff_pairwise_ne, List.pairwise_map]
        exact (lot_asc ns).imp fun {a b} h => by omega
      · rw [h2, decide_eq_true_eq, List.mem_map, List.mem_map]
        exact ⟨fun ⟨n, h1, h2⟩ => ⟨n, (mem_lot h12).mpr h1, h2⟩, fun ⟨n, h1, h2⟩ => ⟨n, (mem_lot h12).mp h1, h2⟩⟩
    exact q (.dat (.int (lot ns).length)) _ _ _ rfl (s1.trans s2) (by rw [e]; exact Rp.int _) Fr.dat
end
/-! ### sorted and min of data -/
/-- a before b or like it -/
def dle (a b : Dt) : Bool := !PySem.W.dataLt b.py a.py
theorem RpL.zip {F : Hp} : ∀ {xs : List V} {ds : List Dt}, RpL E.K E.C F xs ds → (xs.zip ds).map (·.1) = xs ∧ (xs.zip ds).map (·.2) = ds ∧ ∀ z ∈ xs.zip ds, Rp E.K E.C F z.1 z.2
  | _, _, .nil => ⟨rfl, rfl, fun z hz => absurd hz (by simp)⟩
  | _, _, .cons r t => by
    obtain ⟨i1, i2, i3⟩ := RpL.zip t
    rw [List.zip_cons_cons, List.map_cons, List.map_cons, i1, i2]
    refine ⟨rfl, rfl, fun z hz => ?_⟩
    rcases List.mem_cons.mp hz with e | hz
    · rw [e]; exact r
    · exact i3 z hz
theorem RpL.ofZip {F : Hp} : ∀ {zs : List (V × Dt)}, (∀ z ∈ zs, Rp E.K E.C F z.1 z.2) → RpL E.K E.C F (zs.map (·.1)) (zs.map (·.2))
  | [], _ => .nil
  | z :: zs, h => .cons (h z List.mem_cons_self) (RpL.ofZip fun y hy => h y (List.mem_cons_of_mem _ hy))
section
variable (B : Bt E.mg)
include B
theorem ex_sortedD {k0 : Ki} {ds : List Dt} (ha : EX E f a G (fun k => k = k0)) (hk0 : HoldD E f.hd k0 true ds) (hp : Dt.plL ds = true) (hdp : ∀ d ∈ ds, d.py.depth ≤ 64) (hc : CanSort (ds.map Dt.py)) (hl : ds.length ≤ 1000000) (hg : GlS f.sc "sorted" := by rfl)
    (hs : ∀ env : Env, starEach [a] env = (false, eval a env) :: starEach [] env := by intro _; rfl) : ED E f (.Call (.Name "sorted" p) [a] [] pos) G (.lst (ds.mergeSort dle)) := fun X hX => by
  have g := hX.gl hg
  have hm : X.mg "sorted" = none := by obtain ⟨C, rfl⟩ := hX.en; exact B.sorted
  have ek : X.K = E.K := by obtain ⟨C, rfl⟩ := hX.en; rfl
  refine pe_w (pe_callB (cr_sortedD (by have := hX.un; omega)) g hm (by decide +kernel) (pa_cons (ha X hX) pa_nil (hs _)) (by decide) (by decide) (hs _) rfl) ?_
  rw [ek]
  rintro σ H Q ⟨F, w, t, q⟩
  refine ⟨F, w, t, ?_⟩
  rintro k v F1 H1 rfl s1 kv -
  obtain ⟨a, xs, rfl, hsq, r⟩ := hk0 F1 H1 v s1.wd kv
  rw [if_pos rfl] at hsq
  obtain ⟨z1, z2, z3⟩ := r.zip
  let zs := xs.zip ds
  have e1 : (zs.map fun z => (z.1, z.2.py)).map (·.1) = xs := by rw [List.map_map, ← z1]; rfl
  have e2 : (zs.map fun z => (z.1, z.2.py)).map (·.2) = ds.map Dt.py := by rw [List.map_map, ← z2, List.map_map]; rfl
  refine ⟨a, zs.map fun z => (z.1, z.2.py), rfl, by rw [e1]; exact hsq, fun y hy => ?_, by rw [e2]; exact hc, by rw [← List.length_map (f := (·.2)), e2, List.length_map]; exact hl, fun p1 hp1 => ?_⟩
  · obtain ⟨z, hz, rfl⟩ := List.mem_map.mp hy
    have hz2 : z.2 ∈ ds := by rw [← z2]; exact List.mem_map.mpr ⟨z, hz, rfl⟩
    have hpz : z.2.pl = true := by
      rw [Dt.plL_eq, List.all_eq_true] at hp
      exact hp z.2 hz2
    exact ⟨Rp.dp hpz ((z3 z hz).mono s1.wd.ex), hdp z.2 hz2⟩
  · have es : (zs.map fun z => (z.1, z.2.py)).mergeSort (PySem.W.dataLe false fun z => z.2) = (zs.mergeSort fun x y => dle x.2 y.2).map fun z => (z.1, z.2.py) := by
      rw [List.map_mergeSort]
      intro x _ y _
      rfl
    rw [es, List.map_map]
    have e3 : (zs.mergeSort fun x y => dle x.2 y.2).map (·.2) = ds.mergeSort dle := by
      rw [List.map_mergeSort (s := dle)]
      · rw [z2]
      · intro x _ y _
        rfl
    have rz : RpL E.K E.C F1 ((zs.mergeSort fun x y => dle x.2 y.2).map (·.1)) (ds.mergeSort dle) := by
      rw [← e3]
      exact RpL.ofZip fun z hz => z3 z (List.mem_mergeSort.mp hz)
    have s2 := Stp.new (o := .lst ((zs.mergeSort fun x y => dle x.2 y.2).map (·.1))) s1.wd hp1
    exact q (.dat (.lst (ds.mergeSort dle))) _ _ _ rfl (s1.trans s2) (Rp.lst upd_same (rz.mono s2.e.1)) Fr.dat
theorem ed_sortedD {ds : List Dt} (ha : ED E f a G (.lst ds)) (hp : Dt.plL ds = true) (hdp : ∀ d ∈ ds, d.py.depth ≤ 64) (hc : CanSort (ds.map Dt.py)) (hl : ds.length ≤ 1000000) (hg : GlS f.sc "sorted" := by rfl)
    (hs : ∀ env : Env, starEach [a] env = (false, eval a env) :: starEach [] env := by intro _; rfl) : ED E f (.Call (.Name "sorted" p) [a] [] pos) G (.lst (ds.mergeSort dle)) := ex_sortedD B ha holdL hp hdp hc hl hg hs
/-- min(a), the first is the least -/
theorem ed_minD {d : Dt} {ds : List Dt} (ha : ED E f a G (.lst (d :: ds))) (hp : Dt.plL (d :: ds) = true) (hal : PySem.W.AlikeAll ((d :: ds).map Dt.py)) (hdp : PyData.depthAll ((d :: ds).map Dt.py) ≤ 64) (hmin : PySem.W.minD d.py (ds.map Dt.py) = d.py) (hinj : ∀ x ∈ d :: ds, x.py = d.py → x = d) (hg : GlS f.sc "min" := by rfl)
    (hs : ∀ env : Env, starEach [a] env = (false, eval a env) :: starEach [] env := by intro _; rfl) : ED E f (.Call (.Name "min" p) [a] [] pos) G d := fun X hX => by
  have g := hX.gl hg
  have hm : X.mg "min" = none := by obtain ⟨C, rfl⟩ := hX.en; exact B.min
  have ek : X.K = E.K := by obtain ⟨C, rfl⟩ := hX.en; rfl
  refine pe_w (pe_callB (cr_minD hX.calm (by have := hX.un; omega)) g hm (by decide +kernel) (pa_cons (ha X hX) pa_nil (hs _)) (by decide) (by decide) (hs _) rfl) ?_
  rw [ek]
  rintro σ H Q ⟨F, w, t, q⟩
  refine ⟨F, w, t, ?_⟩
  rintro k v F1 H1 rfl s1 kv -
  cases (show Rp E.K E.C F1 v (.lst (d :: ds)) from kv) with
  | @lst a xs _ h0 r =>
    refine ⟨a, xs, d.py, ds.map Dt.py, rfl, SqL.of (s1.wd.ex _ _ h0), ?_, hal, hdp, fun i v hv he => ?_⟩
    · have := RpL.dp hp (r.mono s1.wd.ex)
      rw [Dt.pyL_eq] at this
      exact this
    · obtain ⟨x, hx, rx⟩ := r.getV hv
      rw [hmin, ← List.map_cons, List.getElem?_map, hx] at he
      have hxe : x = d := hinj x (List.mem_of_getElem? hx) (Option.some.inj he)
      exact q (.dat x) v F1 H1 (by rw [hxe]) s1 rx Fr.dat
end
end A8
set_option Elab.async false
set_option linter.all false
set_option maxRecDepth 100000
set_option maxHeartbeats 1000000
namespace A8
open PySem PySem.Spec PyProof.Rows L2
variable {E : En} {f : Fm} {G : List Ki} {e a b c : Expr} {es : List Expr} {pos p pos' : Pos} {R Ra Rb : Ki → Prop}
section
variable {elt tg iter tg1 iter1 : Expr} {scope : Scope} {α β : Type}
def Lw (E : En) (hd : Hd) (F1 H1 : Hp) (D : Addr) (ds : List Dt) (H : Hp) : Prop := ∃ F acc, Stp hd F1 H1 F H ∧ F D = none ∧ H D = some (.lst acc) ∧ RpL E.K E.C F acc ds
/-- [elt for tg in iter for tg1 in iter1] -/
theorem ed_lc2 (j j1 : Nat) (own : List (Str × Nat)) (vs1 : List Nat) (l : List α) (l1 : α → List β) (eD : α → Dt) (eD1 : α → β → Dt) (g : α → β → Dt) (hi : IXl E f tg iter G (l.map eD)) (hg : GX E (f.blk scope) tg (.one j))
    (hi1 : ∀ x ∈ l, IXl E (f.blk scope) tg1 iter1 ((wipeK G (own.map (·.2))).set j (.dat (eD x))) ((l1 x).map (eD1 x))) (hg1 : GX E (f.blk scope) tg1 (.one j1))
    (he : ∀ x ∈ l, ∀ y ∈ l1 x, ED E (f.blk scope) elt ((wipeK ((wipeK G (own.map (·.2))).set j (.dat (eD x))) vs1).set j1 (.dat (eD1 x y))) (g x y)) (hlen : (l.flatMap fun x => (l1 x).map (g x)).length ≤ 1000000)
    (hsl : j ∈ own.map (·.2) := by decide) (hsl1 : j1 ∈ vs1 := by decide) (hv : ∀ i ∈ vs1, i ∈ own.map (·.2) := by decide) (ok : blkC f.N f.sc scope own = true := by dsimp only [Fm.blk]; decide +kernel) (hs : ∀ (env : Env) x, foldedSetIterable iter env x = pure x := by intro _ _; rfl) (hs1 : ∀ (env : Env) x, foldedSetIterable iter1 env x = pure x := by intro _ _; rfl) :
    ED E f (.ListComp elt [⟨tg, iter, [], 0⟩, ⟨tg1, iter1, [], 0⟩] scope pos) G (.lst (l.flatMap fun x => (l1 x).map (g x))) := fun X hX => by
  have pe := pe_lc2 (X := X) (own := own) (vs1 := vs1) (wi1 := fun σ H Q => ∃ x : α, x ∈ l ∧ tGI E f.hd ((wipeK G (own.map (·.2))).set j (.dat (eD x))) (fun ds => ds = (l1 x).map (eD1 x)) σ H Q)
    (tt := fun σ H Q => ∃ G' : List Ki, True ∧ tGT E f.hd G' (fun b => b = true) σ H Q) (tt1 := fun σ H Q => ∃ G' : List Ki, True ∧ tGT E f.hd G' (fun b => b = true) σ H Q)
    (te := fun σ H Q => ∃ z : α × β, (z.1 ∈ l ∧ z.2 ∈ l1 z.1) ∧ tG E f.hd ((wipeK ((wipeK G (own.map (·.2))).set j (.dat (eD z.1))) vs1).set j1 (.dat (eD1 z.1 z.2))) (one (g z.1 z.2)) σ H Q) (pos := pos)
    hX.calm (by rw [hX.N]; exact hX.nd) (hi X hX) (blkOk_by (by rw [hX.N, hX.sc]; exact ok)) hv (fun s H C cl fp => hg _ (hX.blk scope s H C cl fp)) (fun s H C cl fp => pts_un' fun G' _ => tsx_nil (E := E) (f := f.blk scope) _ (hX.blk scope s H C cl fp))
    (fun s H C cl fp => pi_un' fun x hx => hi1 x hx _ (hX.blk scope s H C cl fp)) (fun s H C cl fp => hg1 _ (hX.blk scope s H C cl fp)) (fun s H C cl fp => pts_un' fun G' _ => tsx_nil (E := E) (f := f.blk scope) _ (hX.blk scope s H C cl fp))
    (fun s H C cl fp => pe_un' fun z hz => he z.1 hz.1 z.2 hz.2 _ (hX.blk scope s H C cl fp)) (hs _) hs1
  refine pe_w pe ?_
  rintro σ H Q ⟨F, w, ty, q⟩
  refine ⟨F, w, ty, ?_⟩
  rintro J ds F1 H1 rfl s1 it D hD
  have nD : ∀ p c, f.hd = some (p, c) → D ≠ p := s1.wd.ne hD
  refine ⟨fun i m H' => m = l.length - i ∧ i ≤ l.length ∧ Lw E f.hd F1 H1 D ((l.take i).flatMap fun x => (l1 x).map (g x)) H', ⟨l.length, by omega, Nat.zero_le _, F1, [], Stp.own s1.wd hD, s1.wd.ex.none hD, upd_same, .nil⟩, ?_⟩
  rintro i m H' ⟨rfl, hil, F2, acc, s2, hF, hDD, rp⟩
  have it2 := it i F2 H' s2.e.1 s2.wd
  by_cases hlt : i < l.length
  · have hx : l[i]? = some l[i] := List.getElem?_eq_getElem hlt
    have hmem : l[i] ∈ l := List.getElem_mem hlt
    obtain ⟨go, yld⟩ := it2.1 (eD l[i]) (by rw [List.getElem?_map, hx]; rfl)
    have etake : (l.take (i + 1)).flatMap (fun x => (l1 x).map (g x)) = (l.take i).flatMap (fun x => (l1 x).map (g x)) ++ (l1 l[i]).map (g l[i]) := by
      rw [List.take_add_one, hx, List.flatMap_append]
      simp
    refine .inr ⟨go, fun H' => Lw E f.hd F1 H1 D ((l.take (i + 1)).flatMap fun x => (l1 x).map (g x)) H', fun H' h => ⟨l.length - (i + 1), by omega, rfl, hlt, h⟩, fun x H3 y => ?_⟩
    obtain ⟨F3, s3, rx⟩ := yld x H3 y
    have s13 := s2.trans s3
    have d3 : H3 D = some (.lst acc) := s3.b D _ nD hDD
    have f3 : F3 D = none := s3.lack hDD hF
    refine ⟨wipe_set hsl, ?_⟩
    have ty2 : ∀ {F' H'}, Stp f.hd F1 H1 F' H' → Ex F3 F' → Ty E.K E.C f.hd F' H' ((wipeK G (own.map (·.2))).set j (.dat (eD l[i]))) ((wipe σ (own.map (·.2))).set j (some x)) := fun st ex => ((ty.mono (s1.trans st)).wipe _).set j (k := .dat (eD l[i])) (rx.mono ex)
    refine ⟨_, trivial, F3, s3.wd, ty2 s13 (A8.Ex.refl _), ?_⟩
    rintro b F4 H4 rfl s4
    refine iteT ⟨l[i], hmem, F4, s4.wd, ty2 (s13.trans s4) s4.e.1, ?_⟩
    rintro J1 ds1 F5 H5 rfl s5 it1
    have s15 := (s13.trans s4).trans s5
    have d5 : H5 D = some (.lst acc) := s5.b D _ nD (s4.b D _ nD d3)
    have f5 : F5 D = none := s5.lack (s4.b D _ nD d3) (s4.lack d3 f3)
    refine ⟨fun k n H6 => n = (l1 l[i]).length - k ∧ k ≤ (l1 l[i]).length ∧ ∃ F6 acc6, Stp f.hd F1 H1 F6 H6 ∧ Ex F5 F6 ∧ F6 D = none ∧ H6 D = some (.lst acc6) ∧ RpL E.K E.C F6 acc6 ((l.take i).flatMap (fun x => (l1 x).map (g x)) ++ ((l1 l[i]).take k).map (g l[i])),
      ⟨_, rfl, Nat.zero_le _, F5, acc, s15, A8.Ex.refl _, f5, d5, by rw [List.take_zero, List.map_nil, List.append_nil]; exact rp.mono ((s3.trans s4).trans s5).e.1⟩, ?_⟩
    rintro k n H6 ⟨rfl, hkl, F6, acc6, s6, x6, f6, d6, rp6⟩
    have it3 := it1 k F6 H6 x6 s6.wd
    by_cases hlt1 : k < (l1 l[i]).length
    · have hy : (l1 l[i])[k]? = some (l1 l[i])[k] := List.getElem?_eq_getElem hlt1
      have hmy : (l1 l[i])[k] ∈ l1 l[i] := List.getElem_mem hlt1
      obtain ⟨go1, yld1⟩ := it3.1 (eD1 l[i] (l1 l[i])[k]) (by rw [List.getElem?_map, hy]; rfl)
      refine .inr ⟨go1, fun H7 => ∃ F7 acc7, Stp f.hd F1 H1 F7 H7 ∧ Ex F5 F7 ∧ F7 D = none ∧ H7 D = some (.lst acc7) ∧ RpL E.K E.C F7 acc7 ((l.take i).flatMap (fun x => (l1 x).map (g x)) ++ ((l1 l[i]).take (k + 1)).map (g l[i])), fun H7 h => ⟨(l1 l[i]).length - (k + 1), by omega, rfl, hlt1, h⟩, fun x1 H7 y1 => ?_⟩
      obtain ⟨F7, s7, rx7⟩ := yld1 x1 H7 y1
      have s17 := s6.trans s7
      have ex37 : Ex F3 F7 := ((s4.trans s5).e.1.trans x6).trans s7.e.1
      refine ⟨wipe_set hsl1, ?_⟩
      have ty8 := ((ty2 s17 ex37).wipe vs1).set j1 (k := .dat (eD1 l[i] (l1 l[i])[k])) rx7
      refine ⟨_, trivial, F7, s7.wd, ty8, ?_⟩
      rintro b F8 H8 rfl s8
      refine iteT ⟨(l[i], (l1 l[i])[k]), ⟨hmem, hmy⟩, F8, s8.wd, ty8.mono s8, ?_⟩
      rintro kk v F9 H9 rfl s9 kv -
      have s79 := s7.trans (s8.trans s9)
      have d9 : H9 D = some (.lst acc6) := s79.b D _ nD d6
      have f9 : F9 D = none := s79.lack d6 f6
      have eacc : ((l.take i).flatMap (fun x => (l1 x).map (g x)) ++ ((l1 l[i]).take (k + 1)).map (g l[i])) = ((l.take i).flatMap (fun x => (l1 x).map (g x)) ++ ((l1 l[i]).take k).map (g l[i])) ++ [g l[i] (l1 l[i])[k]] := by
        rw [List.take_add_one, hy, List.map_append, List.append_assoc]
        rfl
      have hle : acc6.length < 1000000 + 1 := by
        rw [rp6.length]
        have h2 : (l.take (i + 1)).flatMap (fun x => (l1 x).map (g x)) ++ (l.drop (i + 1)).flatMap (fun x => (l1 x).map (g x)) = l.flatMap fun x => (l1 x).map (g x) := by rw [← List.flatMap_append, List.take_append_drop]
        have h3 := congrArg List.length h2
        rw [etake, List.length_append, List.length_append] at h3
        rw [List.length_append, List.length_map, List.length_take]
        rw [List.length_map] at h3
        omega
      refine ⟨acc6, d9, by rw [sizeLine_eq]; omega, F9, acc6 ++ [v], (s6.trans s79).mut hD f9 nD, x6.trans s79.e.1, f9, upd_same, ?_⟩
      rw [eacc]
      exact (rp6.mono s79.e.1).append (.cons kv .nil)
    · have ek : k = (l1 l[i]).length := by omega
      subst ek
      refine .inl ⟨it3.2 (by rw [List.length_map]; exact Nat.le_refl _), ?_⟩
      rw [List.take_length] at rp6
      exact ⟨F6, acc6, s6, f6, d6, by rw [etake]; exact rp6⟩
  · have ei : i = l.length := by omega
    subst ei
    rw [List.take_length] at rp
    have hD0 : H D = none := by
      cases z : H D with
      | none => rfl
      | some o =>
        obtain ⟨o', h'⟩ := s1.tr z
        rw [hD] at h'
        cases h'
    have s' := (s1.trans s2).freeze hD0 hF hDD nD
    exact .inl ⟨it2.2 (by rw [List.length_map]; exact Nat.le_refl _), q _ _ _ _ rfl s' (Rp.lst upd_same (rp.mono (Ex.new hF))) Fr.dat⟩
end
end A8
set_option Elab.async false
set_option linter.all false
set_option maxRecDepth 100000
set_option maxHeartbeats 2000000
namespace A8
open PySem PySem.Spec PyProof.Rows L2
/-! ### ranges as values -/
section
variable {X : Cx} {tg e : Expr} {te : TE}
theorem cr_range1 : CallR X (.type "range") (fun vs H Q => ∃ j, vs = [V.int j] ∧ ∀ p, H p = none → Q (.ref p) (upd H p (.rng 0 j))) := by
  intro pins s σ H vs us Q I r h
  obtain ⟨j, rfl, q⟩ := h
  obtain ⟨u1, rfl, ri⟩ := vals1 r
  obtain ⟨t, rfl⟩ := ri
  refine call_range_1 ⟨.ref s.heap.objs.size, upd H s.heap.objs.size (.rng 0 j), I.laid (t' := s.toks + 2) (fun b o e => Heap.get?_push_of_some _ e) (Nat.le_refl _) ?_, rfl, q _ (I.hok.fresh (Nat.le_refl _))⟩
  exact ⟨_, _, _, Heap.get?_push_size _ rfl⟩
def iRngV (te : TE) : TI := fun σ H R => te σ H fun x H1 => ∃ (a : Addr) (lo hi : Int), x = .ref a ∧ H1 a = some (.rng lo hi) ∧ -(2 ^ 62) ≤ lo ∧ lo < 2 ^ 62 ∧ -(2 ^ 62) ≤ hi ∧ hi < 2 ^ 62 ∧ R (Itr lo (hi - lo).toNat) H1
theorem pi_rngV (he : PE X e te) : PI X tg e (iRngV te) := by
  refine ⟨fun pins s σ H R I h => ?_⟩
  refine thn (he.run pins s σ H _ I h) fun v s1 ⟨x, H1, I1, r1, q1⟩ => ?_
  obtain ⟨a, lo, hi, rfl, ha, h1, h2, h3, h4, q⟩ := q1
  cases r1
  obtain ⟨t, u, v, ho⟩ := I1.hok a _ ha
  refine wpAny_pyIter_range ho (small_one h1 h2 h3 h4) ?_
  refine ⟨s1.heap.objs.size, [s1.heap.objs.size], _, _, H1, rfl, I1.kept (t' := s1.toks) fun b o e => Heap.get?_push_of_some _ e, turn_range _ lo (hi - lo).toNat, ?_, fun b hb => ?_, q⟩
  · have e1 : lo + ((0 : Nat) : Int) * 1 = lo := by simp
    have e2 : (((hi - lo).toNat : Nat) : Int) - ((0 : Nat) : Int) = Builtin.Range.rangeSize lo hi 1 := by rw [rangeSize_one]; split <;> omega
    show IsRangeIter _ _ (lo + ((0 : Nat) : Int) * 1) ((((hi - lo).toNat : Nat) : Int) - ((0 : Nat) : Int)) 1
    rw [e1, e2]
    exact Heap.get?_push_size _ rfl
  · have e : b = s1.heap.objs.size := by simpa using hb
    subst e
    exact I1.fpOk (Nat.le_refl _) (I1.hok.fresh (Nat.le_refl _))
end

/-! ### enumerate(t), t a tuple -/
def IteT (K : PySem.W.Frag) (a : Addr) : It :=
  ⟨fun i H => ∃ (xs : List V) (x : V), SqT K H a xs ∧ xs[i]? = some x, fun i H v H' => ∃ T x, v = .ref T ∧ H T = none ∧ H' = upd H T (.tup [.int (i : Nat), x]) ∧ ∀ xs, SqT K H a xs → xs[i]? = some x, fun i H => ∃ xs : List V, SqT K H a xs ∧ xs.length ≤ i⟩
theorem enum_end_tuple {prog : Program} {w : World} {A : Around} {E : Value → Shared → Prop} {s : Shared} {e it t : Addr} {i : Nat} {items : Array Value} {old : Value} {c : Int} {Q : Option Value → Shared → Prop} (hh : A.handled = none) (he : IsEnum s.heap e it c old)
    (hit : s.heap.IsTupleIter it t i) (ht : s.heap.IsTuple t items) (hx : items[i]? = none) (hQ : ∀ h', Heap.ExtBut it s.heap h' → Q none { s with heap := h' }) : wpAny (model prog w) A (pyNext (.ref e)) Q E s := by
  have hT : s.TypeIs (.ref e) "enumerate" := ⟨_, he, rfl⟩
  unfold pyNext
  refine wpAny_bind (wpAny_attempt (wpAny_callSpecial?_slot (name := Str.ofString "__next__") hT F.slot_enumerate_next
    (wpAny_call_entry F.slot_enumerate_next hT F.entry_enumerate_next ?_ (F.args_enumerate_next_1 _))))
  show wpAny _ _ (field (.ref e) 2 >>= _) _ _ _
  refine wpAny_bind (wpAny_field he rfl (x := .ref it) rfl ?_)
  refine wpAny_bind (wpAny_nextOf_tuple_end (by simp [hh]) hit ht hx fun h' x he' hx' => ?_)
  obtain ⟨o, ho, hc⟩ := hx'
  refine wpAny_bind (wpAny_isInstance (T := "StopIteration") (b := true) ⟨o, ho, hc⟩ isSubtype_stop ?_)
  exact wpAny_pure (hQ _ he')
theorem turn_enumT {P : Program} {w : World} {K : PySem.W.Frag} {elts : List Expr} {kk : Nat} {tpos : Pos} (a e it : Addr) :
    Turn P w K (.Tuple elts kk tpos) (IteT K a) [e, it] e (fun i h => (∃ old, IsEnum h e it ((i : Nat) : Int) old) ∧ h.IsTupleIter it a i ∧ e ≠ it ∧ a ≠ it) where
  mem := by simp
  obj := fun i h st b hb => by
    obtain ⟨⟨old, he⟩, ⟨o, ho, hc, hd⟩, _⟩ := st
    have e' : b = e ∨ b = it := by simpa using hb
    rcases e' with z | z
    · rw [z]; exact ⟨_, he, fun v q => nomatch q⟩
    · rw [z]; exact ⟨o, ho, fun v q => by rw [hd] at q; cases q⟩
  keep := fun i h h' st k => let ⟨⟨old, he⟩, hi, hne⟩ := st; ⟨⟨old, k e (by simp) _ he⟩, hi.at fun o q => k it (by simp) o q, hne⟩
  item := by
    intro X hP hw hK hc i pins s σ H E I hf st hg
    subst hP hw hK
    obtain ⟨⟨old, he⟩, hit, hne, hna⟩ := st
    obtain ⟨xs, x, hq, hx⟩ := hg
    obtain ⟨its, rv, p, hz⟩ := I.tuple hq
    obtain ⟨u, hu, ru⟩ := rv.get hx
    have hel : e < s.heap.objs.size := Heap.lt_size he
    have hil : it < s.heap.objs.size := by obtain ⟨_, q, _⟩ := hit; exact Heap.lt_size q
    have hp : s.heap.IsTuple a its.toArray := p
    have hlt : i < its.toArray.size := by rw [List.size_toArray]; exact (List.getElem?_eq_some_iff.mp hu).1
    have hea : e ≠ a := fun z => by
      obtain ⟨o, ho, hc, _⟩ := hp
      rw [← z] at ho
      have he' : s.heap.get? e = some _ := he
      rw [he'] at ho
      rw [← Option.some.inj ho] at hc
      have hc' : Value.type "enumerate" = Value.type "tuple" := hc
      exact absurd hc' (by decide)
    have hef : e ∉ [it, a] := by simp [hne, hea]
    refine wpAny_pyNext_enum_itemD (Draws.tuple (A := X.A.in1) (by show X.A.handled = none; exact I.ok.hd hc) it a hna its.toArray) he ⟨hit, hp⟩ hlt hne hef fun x0 h' tk hP ho hs' hT hsz hk => ?_
    have ex : x0 = u := by
      have : its.toArray[i]? = some u := by simpa using hu
      rw [this] at hP
      exact (Option.some.inj hP).symm
    subst ex
    refine ⟨_, rfl, wpAny_letOwnedTupleGo_enum (s := { s with heap := h', toks := tk + 1 }) ho fun h'' he' sb => ?_⟩
    have hT2 : h''.get? s.heap.objs.size = some { cls := .type "tuple", data := .seq #[.int i tk, x0] } := (sb.2 _ (Nat.ne_of_gt hel)).trans hT
    have new : ObjOk X.prog X.w (upd H s.heap.objs.size (.tup [.int (i : Nat), x])) h'' s.heap.objs.size (.tup [.int (i : Nat), x]) :=
      ⟨by show 2 ≤ sizeLine; decide, [.int i tk, x0], .cons ⟨_, rfl⟩ (.cons ru .nil), ⟨_, hT2, rfl, _, rfl⟩⟩
    have I1 : Inv X pins σ (upd H s.heap.objs.size (.tup [.int (i : Nat), x])) { s with heap := h'', toks := tk + 1 } :=
      I.turnedNew (ch := [e, it]) (fun b ob hb q => (sb.2 b (fun z => hb (by simp [z]))).trans (hk b ob (fun z => hb (by simp [z])) (fun z => hb (by simp [z])) q)) hf (Nat.le_refl _) new
    refine ⟨.ref s.heap.objs.size, _, I1, rfl, ⟨_, x, rfl, I.hok.fresh (Nat.le_refl _), rfl, fun ys hy => by rw [I.tuple_inj hy hq]; exact hx⟩, ⟨⟨x0, ?_⟩, hs'.1.at fun o q => (sb.2 it (Ne.symm hne)).trans q, hne, hna⟩, fun b hb => ?_⟩
    · have e1 : ((i + 1 : Nat) : Int) = (i : Int) + 1 := by omega
      rw [e1]; exact he'
    · have hb' : b < s.heap.objs.size := by
        have e' : b = e ∨ b = it := by simpa using hb
        rcases e' with z | z
        · rw [z]; exact hel
        · rw [z]; exact hil
      rw [upd_ne (Nat.ne_of_lt hb')]
      exact (hf b hb).1
  done := by
    intro X hP hw hK hc i pins s σ H E I hf st hg
    subst hP hw hK
    obtain ⟨⟨old, he⟩, hit, hne, hna⟩ := st
    obtain ⟨xs, hq, hx⟩ := hg
    obtain ⟨its, rv, p, hz⟩ := I.tuple hq
    obtain ⟨f0, f1, f2, f3, f4, f5⟩ := hf it (by simp)
    have hl := rv.length
    have hp : s.heap.IsTuple a its.toArray := p
    exact enum_end_tuple (I.ok.hd hc) he hit hp (by simp; omega) fun h' eb => ⟨rfl, I.turned (t' := s.toks) (fun b o hb q => eb b o hb q) f0 f1 f3 f4 f5⟩
  self := fun A i s Q E st h => let ⟨⟨_, he⟩, _⟩ := st; wpAny_pyIter_enum he h

theorem meets_enum1 {v : Value} {o : Obj} {Hp : Heap → Prop} (B : Begins v o Hp) :
    Meets (Builtin.«enumerate.__new__» ⟨[.type "enumerate", v], []⟩) (fun _ R s => Hp s.heap ∧
      R (.ok (.ret (.ref (s.heap.push o).objs.size))) { s with heap := (s.heap.push o).push { cls := .type "enumerate", data := .fields #[.none, .bool false, .ref s.heap.objs.size, rawInt 0, .none, .none] } }) :=
  .of_wp fun prog w A R s h => by
    obtain ⟨hp, g, d, tk, os⟩ := s; obtain ⟨h1, h⟩ := h
    have hsub := sub_enumerate
    have q1 : ∀ {A' : Around} {E : Value → Shared → Prop} {Q : Value → Shared → Prop}, Q (.ref hp.objs.size) ⟨hp.push o, g, d, tk, os⟩ → wpAny (model prog w) A' (pyIter v) Q E ⟨hp, g, d, tk, os⟩ :=
      fun q => B.iter prog w _ _ ⟨hp, g, d, tk, os⟩ _ h1 q
    wp_walk using q1
    refine wpAny_stack_any fun st => wpAny_pure ?_
    split
    · rename_i c _ _ _ _ _
      cases (c == Value.type "enumerate")
      · wp_walk using q1
        exact ⟨_, rfl, h⟩
      · wp_walk using q1
        exact ⟨_, rfl, h⟩
    · wp_walk using q1
      exact ⟨_, rfl, h⟩
section
variable {prog : Program} {w : World} {A : Around} {E : Value → Shared → Prop} {s : Shared}
theorem enum_tuple {t : Addr} {items : Array Value} {Q : Value → Shared → Prop} (h1 : s.heap.IsTuple t items)
    (h : ∀ h', IsEnum h' (s.heap.objs.size + 1) s.heap.objs.size 0 .none → h'.IsTupleIter s.heap.objs.size t 0 → (∀ b o, s.heap.get? b = some o → h'.get? b = some o) → Q (.ref (s.heap.objs.size + 1)) { s with heap := h' }) :
    wpAny (model prog w) A (call (.type "enumerate") [.ref t]) Q E s := by
  refine callType_new F.called_enumerate (by decide) (F.typeCall_enumerate_1 _) (F.newCall_enumerate_1 _) (fun obj => F.args_object_init_2 obj _) F.entry_enumerate_new
    (meets_enum1 (begins_tuple t items)) ⟨h1, ?_⟩
  have hz : (s.heap.push { cls := .type "tuple_iterator", data := .fields #[.ref t, .int 0 0] }).objs.size = s.heap.objs.size + 1 := Heap.size_push ..
  show _ ∧ _
  rw [hz]
  have he : IsEnum ((s.heap.push { cls := .type "tuple_iterator", data := .fields #[.ref t, .int 0 0] }).push
      { cls := .type "enumerate", data := .fields #[.none, .bool false, .ref s.heap.objs.size, rawInt 0, .none, .none] }) (s.heap.objs.size + 1) s.heap.objs.size 0 .none := by
    have := Heap.get?_push_size (s.heap.push { cls := .type "tuple_iterator", data := .fields #[.ref t, .int 0 0] }) (o := { cls := .type "enumerate", data := .fields #[.none, .bool false, .ref s.heap.objs.size, rawInt 0, .none, .none] }) rfl
    rw [hz] at this; exact this
  refine ⟨⟨_, he, rfl⟩, h _ he ⟨_, Heap.get?_push_of_some _ (Heap.get?_push_size _ rfl), rfl, rfl⟩ fun b o x => Heap.get?_push_of_some _ (Heap.get?_push_of_some _ x)⟩
end
def iEnumT (K : PySem.W.Frag) (ta : TA) : TI := fun σ H R => ta σ H fun vs H1 => ∃ a xs, vs = [.ref a] ∧ SqT K H1 a xs ∧ R (IteT K a) H1
theorem pi_enumT {X : Cx} {e : Expr} {ta : TA} {p pos tpos : Pos} {elts : List Expr} {kk : Nat} (hg : Gl X "enumerate") (hm : X.mg "enumerate" = none) (ha : PA X [e] ta) (hs : starEach [e] X.env = [(false, eval e X.env)] := by rfl) :
    PI X (.Tuple elts kk tpos) (.Call (.Name "enumerate" p) [e] [] pos) (iEnumT X.K ta) := by
  refine ⟨fun pins s σ H R I h => ?_⟩
  refine Call_ (ld_blt I hg hm boot_enumerate (PyProof.Rows.callWith_type1 (thn (ha.run pos pins s σ H _ I h) fun us s1 ⟨vs, H1, I1, r1, q1⟩ => ?_) hs rfl))
  obtain ⟨a, xs, ex, hq, q⟩ := q1
  subst ex
  cases r1 with
  | cons r rr =>
    cases rr
    cases r
    obtain ⟨its, rv, p', hz⟩ := I1.tuple hq
    have hp : s1.heap.IsTuple a its.toArray := p'
    have hal : a < s1.heap.objs.size := by obtain ⟨_, e, _⟩ := hp; exact Heap.lt_size e
    refine enum_tuple hp fun h' he hit hk => wpAny_pyIter_enum he ?_
    have I2 : Inv X pins σ H1 { s1 with heap := h' } := I1.kept (t' := s1.toks) hk
    refine ⟨s1.heap.objs.size + 1, [s1.heap.objs.size + 1, s1.heap.objs.size], _, _, H1, rfl, I2, turn_enumT a (s1.heap.objs.size + 1) s1.heap.objs.size, ⟨⟨.none, he⟩, hit, Nat.succ_ne_self _, Nat.ne_of_lt hal⟩, fun b hb => ?_, q⟩
    have e' : b = s1.heap.objs.size + 1 ∨ b = s1.heap.objs.size := by simpa using hb
    have hle : s1.heap.objs.size ≤ b := by
      rcases e' with z | z
      · rw [z]; exact Nat.le_succ _
      · rw [z]; exact Nat.le_refl _
    exact I1.fpOk hle (I1.hok.fresh hle)
/-! ### in the logic -/
variable {E : En} {f : Fm} {G : List Ki} {e a b c : Expr} {pos p : Pos}
theorem itd_enumT {hd : Hd} {F : Hp} {a : Addr} {xs : List V} {ds : List Dt} (h : SqT E.K F a xs) (r : RpL E.K E.C F xs ds) : ItD E hd (IteT E.K a) F (ds.zipIdx.map fun z => .tup [.int (z.2 : Nat), z.1]) := by
  intro i F1 H1 e w
  refine ⟨fun d hd => ?_, fun hi => ⟨xs, ex_t (e.trans w.ex) h, by rw [r.length]; simpa using hi⟩⟩
  rw [List.getElem?_map, List.getElem?_zipIdx] at hd
  cases q : ds[i]? with
  | none => rw [q] at hd; cases hd
  | some d0 =>
    rw [q] at hd
    have hd' : d = .tup [.int (i : Nat), d0] := by
      have := Option.some.inj hd
      rw [← this]
      simp
    obtain ⟨v, hv, rv⟩ := r.get q
    refine ⟨⟨xs, v, ex_t (e.trans w.ex) h, hv⟩, fun x H' ⟨T, x0, e1, e2, e3, e4⟩ => ?_⟩
    subst e1 e3
    have := e4 xs (ex_t (e.trans w.ex) h)
    rw [hv] at this
    cases this
    have s := Stp.new (o := .tup [.int (i : Nat), v]) w e2
    exact ⟨_, s, by rw [hd']; exact .tup upd_same (.cons (.int _) (.cons (rv.mono (e.trans s.e.1)) .nil))⟩
section
variable (B : Bt E.mg)
include B
theorem ixl_enum {elts : List Expr} {kk : Nat} {tpos : Pos} {l : List Dt} (ha : ED E f a G (.tup l)) (hg : GlS f.sc "enumerate" := by rfl) (hs : ∀ env : Env, starEach [a] env = (false, eval a env) :: starEach [] env := by intro _; rfl) (hs' : ∀ env : Env, starEach [a] env = [(false, eval a env)] := by intro _; rfl) :
    IXl E f (.Tuple elts kk tpos) (.Call (.Name "enumerate" p) [a] [] pos) G (l.zipIdx.map fun z => .tup [.int (z.2 : Nat), z.1]) := fun X hX => by
  have g := hX.gl hg
  have hm : X.mg "enumerate" = none := by obtain ⟨C, rfl⟩ := hX.en; exact B.enumerate
  have ek : X.K = E.K := by obtain ⟨C, rfl⟩ := hX.en; rfl
  refine pi_w (pi_enumT g hm (pa_cons (ha X hX) pa_nil (hs _)) (hs' _)) ?_
  rw [ek]
  rintro σ H Q ⟨F, w, t, q⟩
  refine ⟨F, w, t, ?_⟩
  rintro k v F1 H1 rfl s1 kv -
  cases (show Rp E.K E.C F1 v (.tup l) from kv) with
  | @tup a xs _ h0 r => exact ⟨a, xs, rfl, SqT.of (s1.wd.ex _ _ h0), q _ _ F1 H1 rfl s1 (itd_enumT (SqT.of h0) r)⟩
/-- range(n) as a value; walked -/
theorem ed_rng {n : Nat} (ha : ED E f a G (.int n)) (hg : GlS f.sc "range" := by rfl) (hs : ∀ env : Env, starEach [a] env = (false, eval a env) :: starEach [] env := by intro _; rfl) : ED E f (.Call (.Name "range" p) [a] [] pos) G (.rng 0 n) :=
  ex_callTy (r := fun _ vs H Q => ∃ j, vs = [V.int j] ∧ ∀ p, H p = none → Q (.ref p) (upd H p (.rng 0 j))) (fun X _ _ => cr_range1) B.range (ad_cons ha ad_nil hs) (fun ks q => by
    rw [q]
    intro F H vs w ks Q q
    cases ks with
    | cons k1 ks =>
      cases ks
      rw [ko_int k1]
      refine ⟨n, rfl, fun p hp => ?_⟩
      have s := Stp.new (o := .rng 0 (n : Int)) w hp
      exact q (.dat (.rng 0 n)) _ _ _ rfl s (Rp.rng upd_same) Fr.dat) (by decide +kernel) hg (by decide) (by decide) hs
end
theorem ixl_rngV {tg : Expr} {n : Nat} (ha : ED E f a G (.rng 0 n)) (hn : n ≤ 1000000) : IXl E f tg a G ((List.range n).map fun i : Nat => .int (i : Int)) := fun X hX => by
  refine pi_w (pi_rngV (ha X hX)) ?_
  rintro σ H Q ⟨F, w, t, q⟩
  refine ⟨F, w, t, ?_⟩
  rintro k v F1 H1 rfl s1 kv -
  cases (show Rp E.K E.C F1 v (.rng 0 n) from kv) with
  | @rng a _ _ h0 =>
    refine ⟨a, 0, n, rfl, s1.wd.ex _ _ h0, by omega, by omega, by omega, by omega, q _ _ F1 H1 rfl s1 ?_⟩
    have e := itd_rng (E := E) (hd := f.hd) (F := F1) 0 n
    have e2 : ((List.range n).map fun i : Nat => Dt.int (0 + (i : Int))) = (List.range n).map fun i : Nat => Dt.int (i : Int) := List.map_congr_left fun i _ => by rw [Int.zero_add]
    rw [e2] at e
    rw [show ((n : Int) - 0).toNat = n by omega]
    exact e
end A8
set_option Elab.async false
set_option linter.all false
set_option maxRecDepth 100000
set_option maxHeartbeats 2000000
namespace A8
open PySem PySem.Spec PyProof.Rows L2
variable {E : En} {f : Fm} {G : List Ki} {e a b c : Expr} {es : List Expr} {pos p pos' : Pos} {R Ra Rb : Ki → Prop}
section
variable {sts rest : List Stmt} {N : List Ki → Prop} {P : Ki → List Ki → Prop}
/-- e as a statement -/
theorem s1_expr (h : EX E f e G R) (hsw : ∀ env : Env, swapsWith e none pos.line env = pure false := by intro _; rfl) : S1 E f (.Expr e pos) G (fun G' => G' = G) P := fun X hX => by
  refine ps_w (ps_expr (h X hX) (hsw _)) ?_
  rintro D σ H ⟨B, F, o, n, rt⟩
  exact ⟨F, o.wd, o.ty, fun k v F1 H1 rk s1 kv fr => n G σ F1 H1 rfl (o.step s1)⟩
/-- x.f = e, x an own instance -/
theorem s1_fld {x fl : Str} {xpos apos : Pos} {D dx : Addr} {fs : List (Str × Dt)} {d : Dt} (i : Nat) (cl : Cls E.K E.C) (na : NoAttr E.K E.C fl) (he : ED E f e G d) (hlen : fs.length < 1000) (hnew : ∀ z ∈ fs, z.1 ≠ fl) (hG : G[i]? = some (.ob D dx fs) := by rfl)
    (hN : f.N[i]? = some x := by rfl) (hv : VisS f.sc x := by first | exact Or.inl rfl | exact Or.inr (Or.inl rfl) | exact Or.inr (Or.inr rfl)) (hd : (x == ("__debug__" : Str)) = false := by decide) (hcd : (x == ("__classdict__" : Str)) = false := by decide)
    (hs : ∀ env : Env, swapsWith e (some (.Attribute (.Name x xpos) fl apos)) pos.line env = pure false := by intro _; rfl) :
    S1 E f (.Assign [.Attribute (.Name x xpos) fl apos] e pos) G (fun G' => G' = G.set i (.ob D dx (fs ++ [(fl, d)]))) P := fun X hX => by
  have ek : X.K = E.K := by obtain ⟨C, rfl⟩ := hX.en; rfl
  refine ps_w (ps_fld (pe_var (i := i) (by rw [hX.N]; exact hN) (by show VisS X.env.scope x; rw [hX.sc]; exact hv) hd hcd) (he X hX) (hs _)) ?_
  rw [ek]
  rintro D' σ H ⟨B, F, o, n, rt⟩
  refine ⟨F, o.wd, o.ty, ?_⟩
  rintro k v F1 H1 rfl s1 kv -
  have o1 := o.step s1
  obtain ⟨v0, g1, rfl, vs, g2, g3, g4⟩ := o1.ty.at hG (fun z => nomatch z)
  have len : ∀ {vs : List (Str × V)} {fs : List (Str × Dt)}, FRp E.K E.C F1 vs fs → vs.length = fs.length := fun {vs fs} h => by
    induction h with
    | nil => rfl
    | cons _ _ ih => rw [List.length_cons, List.length_cons, ih]
  have put : ∀ {vs : List (Str × V)} {fs : List (Str × Dt)}, FRp E.K E.C F1 vs fs → (∀ z ∈ fs, z.1 ≠ fl) → putF fl v vs = vs ++ [(fl, v)] ∧ FRp E.K E.C F1 (vs ++ [(fl, v)]) (fs ++ [(fl, d)]) := fun {vs fs} h => by
    induction h with
    | nil => exact fun _ => ⟨rfl, .cons kv .nil⟩
    | @cons y u d' vs fs r t ih =>
      intro hz
      obtain ⟨i1, i2⟩ := ih fun z hz' => hz z (List.mem_cons_of_mem _ hz')
      refine ⟨?_, .cons r i2⟩
      show (if y = fl then _ else _) = _
      rw [if_neg (hz _ List.mem_cons_self), i1]
      rfl
  obtain ⟨p1, p2⟩ := put g3 hnew
  refine ⟨.ref D, g1, D, E.C, dx, vs, rfl, g2, cl, na, by rw [len g3]; exact hlen, ?_⟩
  rw [p1]
  exact n _ σ F1 _ rfl (o1.mut hG True.intro g1 g4 True.intro ⟨rfl, _, upd_same, p2, g4⟩)
end
/-! ### isinstance(x, (tuple, list)) -/
theorem kit_tl : ∀ c ∈ ["NoneType", "bool", "int", "str", "tuple", "list", "dict"], ∀ (K : PySem.W.Frag), PySem.W.kitAny K (.type c) [.type "tuple", .type "list"] = some (decide (c = "tuple") || decide (c = "list")) := by
  intro c hc K
  simp only [List.mem_cons, List.mem_singleton, List.not_mem_nil, or_false] at hc
  rcases hc with rfl | rfl | rfl | rfl | rfl | rfl | rfl <;> with_unfolding_all rfl
theorem ed_isaTL {d : Dt} {p2 p3 p4 p5 : Pos} {kk} (B : Bt E.mg) (ha : ED E f a G d) (hc : d.cls ≠ "") (hg : GlS f.sc "tuple" := by rfl) (hg1 : GlS f.sc "list" := by rfl) (hg2 : GlS f.sc "isinstance" := by rfl)
    (hs : ∀ env : Env, starEach [a, .Tuple [.Name "tuple" p2, .Name "list" p3] kk p4] env = (false, eval a env) :: starEach [.Tuple [.Name "tuple" p2, .Name "list" p3] kk p4] env := by intro _; rfl) : ED E f (.Call (.Name "isinstance" p5) [a, .Tuple [.Name "tuple" p2, .Name "list" p3] kk p4] [] pos) G (.bl (d.isa "tuple" || d.isa "list")) :=
  ex_callB (r := rIsiT) (fun X _ _ => call_isiT) B.isinstance (ad_cons ha (ad_cons (ed_tup (ds := [.ty "tuple", .ty "list"]) (ad_cons (ex_ty B.tuple (by decide +kernel) hg (by decide) (by decide)) (ad_cons (ex_ty B.list (by decide +kernel) hg1 (by decide) (by decide)) ad_nil))) ad_nil) hs) (fun ks q => by
    rw [q]
    intro F H vs w ks Q q
    cases ks with
    | cons k1 ks =>
      cases ks with
      | cons k2 ks =>
        cases ks
        cases (show Rp E.K E.C F _ (.tup [.ty "tuple", .ty "list"]) from k2) with
        | tup h0 r =>
          cases r with
          | cons r1 r2 =>
            cases r2 with
            | cons r2 r3 =>
              cases r3
              cases r1
              cases r2
              refine ⟨_, _, _, _, _, _, rfl, w.ex _ _ h0, .cons (.ty "tuple") (.cons (.ty "list") .nil), Rp.tyx w.ex k1 hc, kit_tl _ (Dt.cls_in hc) _, q (.dat (.bl _)) _ F H rfl (Stp.refl w) ?_ Fr.dat⟩
              have e : (d.isa "tuple" || d.isa "list") = (decide (d.cls = "tuple") || decide (d.cls = "list")) := by
                unfold Dt.isa isaC
                simp
              rw [e]
              exact Rp.bl _) (by decide +kernel) hg2 (by decide) (by decide) hs
end A8
set_option Elab.async false
set_option linter.all false
set_option maxRecDepth 100000
set_option maxHeartbeats 1000000
namespace A8
open PySem PySem.Spec PyProof.Rows L2
variable {E : En} {f : Fm} {G : List Ki} {e a b c : Expr} {es : List Expr} {pos p pos' : Pos} {R Ra Rb : Ki → Prop}
/-- one of the values of a set at a time: the rule for a call of a built-in class with one argument -/
theorem ex_tupleS (B : Bt E.mg) {S : List Dt → Prop} (ha : EX E f a G (fun k => ∃ l, S l ∧ k = .dat (.lst l))) (hg : GlS f.sc "tuple" := by rfl) (hs : ∀ env : Env, starEach [a] env = (false, eval a env) :: starEach [] env := by intro _; rfl) :
    EX E f (.Call (.Name "tuple" p) [a] [] pos) G (fun k => ∃ l, S l ∧ k = .dat (.tup l)) :=
  ex_callTy (r := fun K xs H Q => ∃ p ys, xs = [.ref p] ∧ ((SqL K H p ys ∧ ∀ l, H l = none → Q (.ref l) (upd H l (.tup ys))) ∨ (SqT K H p ys ∧ Q (.ref p) H))) (fun X _ _ => call_tuple_of) B.tuple (ax_cons ha ax_nil hs) (fun ks ⟨k, r, e1, ⟨l, sl, e2⟩, e3⟩ => by
    rw [e1, e2, e3]
    intro F H vs w ks Q q
    cases ks with
    | cons k1 ks =>
      cases ks
      cases (show Rp E.K E.C F _ (.lst l) from k1) with
      | @lst a xs _ h r =>
        refine ⟨a, xs, rfl, .inl ⟨SqL.of (w.ex _ _ h), fun p hp => ?_⟩⟩
        have s := Stp.new (o := .tup xs) w hp
        exact q (.dat (.tup l)) _ _ _ ⟨l, sl, rfl⟩ s (Rp.tup upd_same (r.mono s.e.1)) Fr.dat) (by decide +kernel) hg (by decide) (by decide) hs
section
variable {hd : Hd} {B : Bs} {σ : L2.St} {F H F' H' : Hp}
/-- an own list gets another name; the old one is forgotten -/
theorem Ok.move (o : Ok E hd B G σ F H) {z i : Nat} {ds : List Dt} {v : V} (hz : G[z]? = some (.ol ds)) (hv : σ[z]? = some (some v)) (hzi : z ≠ i) (hi : i < G.length) : Ok E hd B ((G.set z .un).set i (.ol ds)) (σ.set i (some v)) F H := by
  have hzl : z < G.length := (List.getElem?_eq_some_iff.mp hz).1
  obtain ⟨v', h1, a, xs, e1, h2, h3, h4⟩ := o.ty.at hz (fun q => nomatch q)
  rw [hv] at h1
  cases h1
  subst e1
  have oa := o.own z _ a hz True.intro hv
  have look : ∀ {j : Nat} {k : Ki}, ((G.set z .un).set i (.ol ds))[j]? = some k → (j = i ∧ k = .ol ds) ∨ (j ≠ i ∧ j = z ∧ k = .un) ∨ (j ≠ i ∧ j ≠ z ∧ G[j]? = some k) := fun {j k} e => by
    by_cases q : i = j
    · subst q
      rw [List.getElem?_set_self (by rw [List.length_set]; exact hi)] at e
      exact .inl ⟨rfl, (Option.some.inj e).symm⟩
    · rw [List.getElem?_set_ne q] at e
      by_cases q2 : z = j
      · subst q2
        rw [List.getElem?_set_self hzl] at e
        exact .inr (.inl ⟨fun w => q w.symm, rfl, (Option.some.inj e).symm⟩)
      · rw [List.getElem?_set_ne q2] at e
        exact .inr (.inr ⟨fun w => q w.symm, fun w => q2 w.symm, e⟩)
  have hiσ : i < σ.length := by rw [← o.ty.len]; exact hi
  refine ⟨o.st, ⟨by rw [List.length_set, List.length_set, List.length_set]; exact o.ty.len, fun j k e => ?_⟩, o.fl, fun j k b e q eb => ?_, fun j k e => ?_, fun j j' k k' b e e' q q' eb eb' => ?_⟩
  · rcases look e with ⟨rfl, rfl⟩ | ⟨q1, rfl, rfl⟩ | ⟨q1, q2, e0⟩
    · exact .inr ⟨.ref a, List.getElem?_set_self hiσ, a, xs, rfl, h2, h3, h4⟩
    · exact .inl rfl
    · rw [List.getElem?_set_ne (fun w => q1 w.symm)]
      exact o.ty.ok j k e0
  · rcases look e with ⟨rfl, rfl⟩ | ⟨q1, rfl, rfl⟩ | ⟨q1, q2, e0⟩
    · rw [List.getElem?_set_self hiσ] at eb
      cases eb
      exact oa
    · exact q.elim
    · rw [List.getElem?_set_ne (fun w => q1 w.symm)] at eb
      exact o.own j k b e0 q eb
  · rcases look e with ⟨rfl, rfl⟩ | ⟨q1, rfl, rfl⟩ | ⟨q1, q2, e0⟩
    · trivial
    · trivial
    · exact o.keep j k e0
  · rcases look e with ⟨rfl, rfl⟩ | ⟨q1, rfl, rfl⟩ | ⟨q1, q2, e0⟩
    · rcases look e' with ⟨rfl, rfl⟩ | ⟨r1, rfl, rfl⟩ | ⟨r1, r2, e0'⟩
      · rfl
      · exact q'.elim
      · rw [List.getElem?_set_self hiσ] at eb
        cases eb
        rw [List.getElem?_set_ne (fun w => r1 w.symm)] at eb'
        exact absurd (o.dis j' z k' _ a e0' hz q' True.intro eb' hv) r2
    · exact q.elim
    · rcases look e' with ⟨rfl, rfl⟩ | ⟨r1, rfl, rfl⟩ | ⟨r1, r2, e0'⟩
      · rw [List.getElem?_set_self hiσ] at eb'
        cases eb'
        rw [List.getElem?_set_ne (fun w => q1 w.symm)] at eb
        exact absurd (o.dis j z k _ a e0 hz q True.intro eb hv) q2
      · exact q'.elim
      · rw [List.getElem?_set_ne (fun w => q1 w.symm)] at eb
        rw [List.getElem?_set_ne (fun w => r1 w.symm)] at eb'
        exact o.dis j j' k k' b e0 e0' q q' eb eb'
end
/-- x, y = (z, e): the own list of z goes over to x -/
theorem s1_parMove {P : Ki → List Ki → Prop} {x y z : Str} {px py pt pz : Pos} {kt k2 pt2} {ds : List Dt} (i j l : Nat) (hG : G[l]? = some (.ol ds)) (hil : i < G.length) (hb : EX E f b G Rb) (kb : ∀ k, Rb k → ∃ d, k = .dat d) (hN : f.N[i]? = some x := by rfl) (hN2 : f.N[j]? = some y := by rfl) (hN3 : f.N[l]? = some z := by rfl) (hij : i ≠ j := by decide) (hli : l ≠ i := by decide)
    (hx : f.sc.names.lookup x = some .local := by rfl) (hy : f.sc.names.lookup y = some .local := by rfl) (hvz : VisS f.sc z := by first | exact Or.inl rfl | exact Or.inr (Or.inl rfl) | exact Or.inr (Or.inr rfl)) (hd : (z == ("__debug__" : Str)) = false := by decide) (hcd : (z == ("__classdict__" : Str)) = false := by decide)
    (hw : ∀ env : Env, env.scope = f.sc → swappedStores [.Tuple [.Name x px, .Name y py] kt pt] (.Tuple [.Name z pz, b] k2 pt2) env = pure (some [x, y]) := by rintro ⟨_⟩ rfl; rfl) (hs : ∀ env : Env, env.scope = f.sc → swapsWithSole [.Tuple [.Name x px, .Name y py] kt pt] (.Tuple [.Name z pz, b] k2 pt2) pos.line env = pure false := by intro _ _; rfl)
    (h1 : ∀ env : Env, starEach [.Name z pz, b] env = (false, eval (.Name z pz) env) :: starEach [b] env := by intro _; rfl) (h2 : ∀ env : Env, starEach [b] env = (false, eval b env) :: starEach [] env := by intro _; rfl) :
    S1 E f (.Assign [.Tuple [.Name x px, .Name y py] kt pt] (.Tuple [.Name z pz, b] k2 pt2) pos) G (fun G' => ∃ k', Rb k' ∧ G' = ((G.set l .un).set i (.ol ds)).set j k') P := fun X hX => by
  refine ps_w (ps_par (i := i) (j := j) hX.calm (by rw [hX.N]; exact hX.nd) (by rw [hX.N]; exact hN) (by rw [hX.N]; exact hN2) hij (by rw [hX.sc]; exact hx) (by rw [hX.sc]; exact hy) (pa_cons (pe_var (i := l) (by rw [hX.N]; exact hN3) (by show VisS X.env.scope z; rw [hX.sc]; exact hvz) hd hcd) (pa_cons (hb X hX) pa_nil (h2 _)) (h1 _)) (hw _ hX.sc) (hs _ hX.sc)) ?_
  rintro D σ H ⟨B, F, o, n, r⟩
  obtain ⟨a, xs, g1, g2, g3, g4⟩ := ownGet o hG
  refine ⟨.ref a, g1, F, o.wd, o.ty, fun k' v' F2 H2 rk' s2 kv' fr' => ⟨.ref a, v', rfl, ?_⟩⟩
  obtain ⟨d, rfl⟩ := kb k' rk'
  have o1 := (o.move hG g1 hli hil)
  exact n _ _ F2 H2 ⟨_, rk', rfl⟩ (o1.put s2 j (k := .dat d) kv' Fr.dat)
end A8
set_option Elab.async false
set_option linter.all false
set_option maxRecDepth 100000
set_option maxHeartbeats 1000000
namespace A8
open PySem PySem.Spec PyProof.Rows L2
variable {E : En} {f : Fm} {G : List Ki} {e a b c : Expr} {es : List Expr} {pos p pos' : Pos} {R Ra Rb : Ki → Prop}
/-- {i: v}, i a written int -/
theorem ed_dispI {i : Int} {d : Dt} (ha : ED E f a G (.int i)) (hb : ED E f b G d) : ED E f (.Dict [some a] [b] pos) G .dic := fun X hX => by
  refine pe_w (pe_disp (pps_cons (ha X hX) (hb X hX) pps_nil) rfl rfl (by simp) (by simp)) ?_
  rintro σ H Q ⟨F, w, t, q⟩ p hp
  have s0 := Stp.own (o := .dK []) w hp
  refine ⟨F, s0.wd, t.mono s0, ?_⟩
  rintro k v F1 H1 rfl s1 kv -
  refine ⟨F1, s1.wd, (t.mono s0).mono s1, ?_⟩
  rintro k2 v2 F2 H2 rfl s2 kv2 -
  have np := w.ne hp
  have s12 := s1.trans s2
  have e2 : H2 p = some (.dK []) := s12.b p _ np upd_same
  have f2 : F2 p = none := s12.lack upd_same (w.ex.none hp)
  rw [ko_int kv]
  refine ⟨e2, [(.inl i, v2)], rfl, by simp, ?_⟩
  have st := (s0.trans s12).mut (o := .dK (mergeK [] [(.inl i, v2)])) hp f2 np
  exact q (.dat .dic) (.ref p) _ _ rfl (st.freeze hp f2 upd_same np) (Rp.dic upd_same) Fr.dat
/-- {} -/
theorem ed_disp0 : ED E f (.Dict [] [] pos) G .dic := fun X hX => by
  refine pe_w pe_dnewK ?_
  rintro σ H Q ⟨F, w, t, q⟩ p hp
  have s := Stp.new (o := .dK []) w hp
  exact q (.dat .dic) (.ref p) _ _ rfl s (Rp.dic upd_same) Fr.dat
theorem itd_zipT {hd : Hd} {F : Hp} {a b : Addr} {xs ys : List V} {ds es : List Dt} (h : SqT E.K F a xs) (h' : SqT E.K F b ys) (r : RpL E.K E.C F xs ds) (r' : RpL E.K E.C F ys es) (hl : ds.length = es.length) : ItD E hd (RZ.ItzT E.K a b) F ((ds.zip es).map fun z => .tup [z.1, z.2]) := by
  intro i F1 H1 e w
  have lx := r.length
  have ly := r'.length
  refine ⟨fun d hd => ?_, fun hi => ?_⟩
  · rw [List.getElem?_map] at hd
    cases q : (ds.zip es)[i]? with
    | none => rw [q] at hd; cases hd
    | some z =>
      rw [q] at hd
      have hd' : d = .tup [z.1, z.2] := (Option.some.inj hd).symm
      obtain ⟨q1, q2⟩ := List.getElem?_zip_eq_some.mp q
      obtain ⟨v, hv, rv⟩ := r.get q1
      obtain ⟨v', hv', rv'⟩ := r'.get q2
      refine ⟨⟨xs, ys, v, v', ex_t (e.trans w.ex) h, ex_t (e.trans w.ex) h', hv, hv'⟩, fun x H' hy => ?_⟩
      obtain ⟨T, x0, y0, rfl, e2, rfl, e4, e5⟩ := hy
      have h1 := e4 xs (ex_t (e.trans w.ex) h)
      have h2 := e5 ys (ex_t (e.trans w.ex) h')
      rw [hv] at h1
      rw [hv'] at h2
      cases h1
      cases h2
      have s := Stp.new (o := .tup [v, v']) w e2
      exact ⟨_, s, by rw [hd']; exact .tup upd_same (.cons (rv.mono (e.trans s.e.1)) (.cons (rv'.mono (e.trans s.e.1)) .nil))⟩
  · rw [List.length_map, List.length_zip] at hi
    exact ⟨xs, ys, ex_t (e.trans w.ex) h, ex_t (e.trans w.ex) h', .inl (by omega)⟩
section
variable (B : Bt E.mg)
include B
theorem ixl_zipT {elts : List Expr} {kk : Nat} {tpos : Pos} {l m : List Dt} (ha : ED E f a G (.tup l)) (hb : ED E f b G (.tup m)) (hl : l.length = m.length) (hg : GlS f.sc "zip" := by rfl) (hs : ∀ env : Env, starEach [a, b] env = (false, eval a env) :: starEach [b] env := by intro _; rfl) (hs2 : ∀ env : Env, starEach [b] env = (false, eval b env) :: starEach [] env := by intro _; rfl)
    (hpl : ∀ env : Env, (backTo pos (starEach [b] env)).any (·.1) = false := by intro _; rfl) : IXl E f (.Tuple elts kk tpos) (.Call (.Name "zip" p) [a, b] [] pos) G ((l.zip m).map fun z => .tup [z.1, z.2]) := fun X hX => by
  have g := hX.gl hg
  have hm : X.mg "zip" = none := by obtain ⟨C, rfl⟩ := hX.en; exact B.zip
  have ek : X.K = E.K := by obtain ⟨C, rfl⟩ := hX.en; rfl
  refine pi_w (RZ.pi_zipA g hm (pa_cons (ha X hX) (pa_cons (hb X hX) pa_nil (hs2 _)) (hs _)) (hs _) (hpl _)) ?_
  rw [ek]
  rintro σ H Q ⟨F, w, t, q⟩
  refine ⟨F, w, t, ?_⟩
  rintro k v F1 H1 rfl s1 kv -
  refine ⟨F1, s1.wd, t.mono s1, ?_⟩
  rintro k2 v2 F2 H2 rfl s2 kv2 -
  have kv' : Rp E.K E.C F2 v (.tup l) := Rp.mono s2.e.1 kv
  cases kv' with
  | @tup a xs _ h0 r =>
    cases (show Rp E.K E.C F2 v2 (.tup m) from kv2) with
    | @tup b ys _ h1 r1 =>
      exact ⟨a, b, xs, ys, rfl, .inr ⟨SqT.of (s2.wd.ex _ _ h0), SqT.of (s2.wd.ex _ _ h1), q _ _ F2 H2 rfl (s1.trans s2) (itd_zipT (SqT.of h0) (SqT.of h1) r r1 hl)⟩⟩
end
end A8
set_option Elab.async false
set_option linter.all false
set_option maxRecDepth 100000
set_option maxHeartbeats 1000000
namespace A8
open PySem PySem.Spec PyProof.Rows L2
variable {E : En} {f : Fm} {G : List Ki} {e a b c : Expr} {es : List Expr} {pos p pos' : Pos} {R Ra Rb : Ki → Prop}
theorem ex_callW {x : Str} {k : Nat} {S : List Ki → (Ki → Prop) → Prop} {Rs : List Ki → Prop} (c : Cl E k x S) (ha : AX E f (e :: es) G Rs) (hr : ∀ ks, Rs ks → ∃ P, S ks P ∧ ∀ k, P k → R k) (hk : Nat.ble k f.k = true := by rfl) (hg : GlS f.sc x := by rfl) (hdb : (x == ("__debug__" : Str)) = false := by decide)
    (he : ∀ env : Env, starEach (e :: es) env = (false, eval e env) :: starEach es env := by intro _; rfl) (hpl : ∀ env : Env, (backTo pos (starEach es env)).any (·.1) = false := by intro _; rfl) : EX E f (.Call (.Name x p) (e :: es) [] pos) G R := fun X hX => by
  have g := hX.gl hg
  have ha' := ha X hX
  obtain ⟨C, rfl⟩ := hX.en
  obtain ⟨fa, fd, ps, F, hm, kp, b⟩ := c.ex
  refine pe_w (pe_call (dvs := []) F (hX.room.mono (Nat.le_of_ble_eq_true hk)) g hm kp b .nil pass0 ha' hdb (he _) (hpl _)) ?_
  rintro σ H Q ⟨F0, w, t, q⟩
  refine ⟨F0, w, t, fun ks vs F1 H1 rs s1 q1 => ?_⟩
  show spG X.K C S (vs ++ []) H1 Q E0
  rw [List.append_nil]
  obtain ⟨P, hS, hP⟩ := hr ks rs
  exact ⟨f.hd, F1, ks, P, hS, s1.wd, q1, fun k v F' H' pk s2 kk fr => q k v F' H' (hP k pk) (s1.trans s2) kk (fr.back s1)⟩
theorem ex_lstS {S : List Dt → Prop} {Rs : List Ki → Prop} (h : AX E f es G Rs) (hr : ∀ ks, Rs ks → ∃ ds, S ds ∧ ds.length ≤ 1000000 ∧ ks = ds.map Ki.dat) : EX E f (.List es pos) G (fun k => ∃ ds, S ds ∧ k = .dat (.lst ds)) := fun X hX => by
  refine pe_w (pe_lst (h X hX)) ?_
  rintro σ H Q ⟨F, w, t, k⟩
  refine ⟨F, w, t, ?_⟩
  rintro ks vs F1 H1 rs s1 q1
  obtain ⟨ds, sd, hl, rfl⟩ := hr ks rs
  have r := KsOk.dts q1
  refine ⟨by rw [r.length]; exact Nat.le_trans hl (by decide), fun p hp => ?_⟩
  have s2 := Stp.new (o := .lst vs) s1.wd hp
  exact k (.dat (.lst ds)) (.ref p) _ _ ⟨ds, sd, rfl⟩ (s1.trans s2) (Rp.lst upd_same (r.mono s2.e.1)) Fr.dat
/-- lists: + -/
theorem ex_catL {S S' : List Dt → Prop} (ha : EX E f a G (fun k => ∃ l, S l ∧ k = .dat (.lst l))) (hb : EX E f b G (fun k => ∃ l, S' l ∧ k = .dat (.lst l))) (hlen : ∀ l m, S l → S' m → l.length + m.length ≤ 1000000) : EX E f (.BinOp a .Add b pos) G (fun k => ∃ l m, S l ∧ S' m ∧ k = .dat (.lst (l ++ m))) :=
  ex_op (r := fun _ => rCat) (fun X _ => op_cat) ha hb fun ka kb ⟨l, sl, e1⟩ ⟨m, sm, e2⟩ => by
    rw [e1, e2]
    intro F H x y w kx ky Q q
    cases (show Rp E.K E.C F x (.lst l) from kx) with
    | @lst a xs _ h1 r1 =>
      cases (show Rp E.K E.C F y (.lst m) from ky) with
      | @lst b ys _ h2 r2 =>
        refine ⟨a, b, xs, ys, rfl, rfl, w.ex _ _ h1, w.ex _ _ h2, by rw [r1.length, r2.length]; exact Nat.le_trans (hlen l m sl sm) (by decide), fun p hp => ?_⟩
        have s := Stp.new (o := .lst (xs ++ ys)) w hp
        exact q (.dat (.lst (l ++ m))) _ _ _ ⟨l, m, sl, sm, rfl⟩ s (Rp.lst upd_same ((r1.mono s.e.1).append (r2.mono s.e.1))) Fr.dat
theorem ed_catL {l m : List Dt} (ha : ED E f a G (.lst l)) (hb : ED E f b G (.lst m)) (hlen : l.length + m.length ≤ 1000000) : ED E f (.BinOp a .Add b pos) G (.lst (l ++ m)) :=
  (ex_catL (S := fun x => x = l) (S' := fun x => x = m) (ha.weaken fun k h => ⟨l, rfl, h⟩) (hb.weaken fun k h => ⟨m, rfl, h⟩) (fun x y hx hy => by rw [hx, hy]; exact hlen)).weaken fun k ⟨x, y, hx, hy, e⟩ => by rw [e, hx, hy]
end A8
set_option Elab.async false
set_option linter.all false
set_option maxRecDepth 100000
set_option maxHeartbeats 1000000
namespace A8
open PySem PySem.Spec PyProof.Rows L2
variable {E : En} {f : Fm} {G : List Ki} {e a b c : Expr} {es : List Expr} {pos p pos' : Pos} {R Ra Rb : Ki → Prop}
theorem ix_lstS {tg : Expr} {S : List Dt → Prop} (ha : EX E f a G (fun k => ∃ l, S l ∧ k = .dat (.lst l))) : IX E f tg a G S := fun X hX => by
  have ek : X.K = E.K := by obtain ⟨C, rfl⟩ := hX.en; rfl
  refine pi_w (pi_list (ha X hX)) ?_
  rw [ek]
  rintro σ H Q ⟨F, w, t, q⟩
  refine ⟨F, w, t, ?_⟩
  rintro k v F1 H1 ⟨l, sl, rfl⟩ s1 kv -
  cases (show Rp E.K E.C F1 v (.lst l) from kv) with
  | @lst a xs _ h r =>
    exact ⟨a, rfl, ⟨xs, SqL.of (s1.wd.ex _ _ h)⟩, q _ _ F1 H1 sl s1 (fun i F2 H2 e w => by
      have hh : SqL E.K H2 a xs := SqL.of (w.ex _ _ (e _ _ h))
      refine ⟨fun d hd => ?_, fun hi => ⟨xs, hh, by rw [r.length]; exact hi⟩⟩
      obtain ⟨v, hv, rv⟩ := r.get hd
      refine ⟨⟨xs, v, hh, hv⟩, fun x H' ⟨e1, e2⟩ => ?_⟩
      subst e1
      have := e2 xs hh
      rw [hv] at this
      cases this
      exact ⟨F2, Stp.refl w, rv.mono e⟩)⟩
/-- for tg in iter: body, iter one of some lists -/
theorem s1_forS {P : Ki → List Ki → Prop} {tg iter : Expr} {body : List Stmt} (t : Tgt) (RL : List Dt → Prop) (I : List Dt → Nat → List Ki → Prop) (hi : IX E f tg iter G RL) (hg : GX E f tg t) (h0 : ∀ l, RL l → I l 0 G)
    (hs : ∀ l, RL l → ∀ (i : Nat) (x : Dt), l[i]? = some x → ∀ G', I l i G' → SX E f body (t.set x G') (fun G2 => I l (i + 1) G2) P) (hf : ∀ l, RL l → ∀ x ∈ l, t.fits x := by exact fun _ _ _ _ => trivial)
    (hfs : ∀ (env : Env) x, foldedSetIterable iter env x = pure x := by intro _ _; rfl) : S1 E f (.For tg iter body [] pos) G (fun G' => ∃ l, RL l ∧ I l l.length G') P := fun X hX => by
  have hpo : PassesOwn (model X.prog X.w) X.A X.env X.xe := by rw [hX.nx]; exact PassesOwn.never
  refine ps_w (ps_for (tb := fun D σ H => ∃ z : List Dt × Nat × Dt × List Ki, (RL z.1 ∧ z.1[z.2.1]? = some z.2.2.1 ∧ I z.1 z.2.1 z.2.2.2) ∧ tS E f.hd (t.set z.2.2.1 z.2.2.2) (fun G2 => I z.1 (z.2.1 + 1) G2) P D σ H) hpo hX.calm (hi X hX) (hg X hX) (pss_un' fun z hz => hs z.1 hz.1 z.2.1 z.2.2.1 hz.2.1 z.2.2.2 hz.2.2 X hX) (hfs _)) ?_
  rintro D σ H ⟨B, F, o, n, r⟩
  refine ⟨F, o.wd, o.ty, ?_⟩
  rintro J l F1 H1 rl s1 it
  have o1 := (o.step s1).floor
  refine ⟨fun i m σ' H' => m = l.length - i ∧ i ≤ l.length ∧ ∃ G' F', I l i G' ∧ Ok E f.hd { B with F1 := F1 } G' σ' F' H', ⟨l.length, by omega, Nat.zero_le _, G, F1, h0 l rl, o1⟩, ?_⟩
  rintro i m σ' H' ⟨rfl, hil, G', F', hI, o'⟩
  have it2 := it i F' H' o'.fl o'.wd
  by_cases hlt : i < l.length
  · have hx : l[i]? = some l[i] := List.getElem?_eq_getElem hlt
    have hmem : l[i] ∈ l := List.getElem_mem hlt
    obtain ⟨go, yld⟩ := it2.1 l[i] hx
    refine .inr ⟨go, fun σ2 H2 => ∃ G2 F2, I l (i + 1) G2 ∧ Ok E f.hd { B with F1 := F1 } G2 σ2 F2 H2, fun σ2 H2 ⟨G2, F2, h2, o2⟩ => ⟨l.length - (i + 1), by omega, rfl, hlt, G2, F2, h2, o2⟩, fun x H3 y => ?_⟩
    obtain ⟨F3, s3, rx⟩ := yld x H3 y
    refine (o'.step s3).tgt t rx (hf l rl _ hmem) fun σ4 o4 => ?_
    exact ⟨⟨l, i, l[i], G'⟩, ⟨rl, hx, hI⟩, { B with F1 := F1 }, F3, o4, fun G5 σ5 F5 H5 h5 o5 => ⟨G5, F5, h5, o5⟩, fun k v G5 σ5 F5 H5 pk o5 => r k v G5 σ5 F5 H5 pk (o5.unfloor rfl rfl ((o.fl).trans s1.e.1))⟩
  · have e : i = l.length := by omega
    subst e
    exact .inl ⟨it2.2 (Nat.le_refl _), n G' σ' F' H' ⟨l, rl, hI⟩ (o'.unfloor rfl rfl ((o.fl).trans s1.e.1))⟩
end A8
set_option Elab.async false
set_option linter.all false
set_option maxRecDepth 100000
set_option maxHeartbeats 4000000
/-! zip whose owned tuple still stands: each draw makes a new tuple -/
namespace A8
open PySem PySem.Spec PyProof.Rows L2
abbrev ZipM (h : Heap) (z TI TO T0 : Addr) (b : Bool) : Prop :=
  h.get? z = some { cls := .type "zip", dict := none, data := .fields #[rawInt T0, .bool b, .bool false, .ref TI, .ref TO], slots := #[] }
section
variable {prog : Program} {w : World} {A : Around} {E : Value → Shared → Prop} {s : Shared}
theorem wpAny_loadIfAlive {M : Model} {a : Addr} {Q : Option Obj → Shared → Prop} (h : Q (s.heap.get? a) s) : wpAny M A (loadIfAlive a) Q E s := fun Γ p _ => h
theorem zip_own {z TI TO T0 : Addr} {b : Bool} {o0 : Obj} {Q : Bool → Shared → Prop} (hz : ZipM s.heap z TI TO T0 b) (h0 : s.heap.get? T0 = some o0)
    (hQ : ∀ h', ZipM h' z TI TO T0 true → h'.objs.size = s.heap.objs.size → (∀ c o, c ≠ z → s.heap.get? c = some o → h'.get? c = some o) → Q false { s with heap := h' }) :
    wpAny (model prog w) A (Builtin.SmallTypes.ownedTupleIsFree (.ref z)) Q E s := by
  unfold Builtin.SmallTypes.ownedTupleIsFree
  refine wpAny_bind (wpAny_field hz rfl (x := rawInt T0) rfl ?_)
  unfold rawInt
  try dsimp only
  refine wpAny_bind (wpAny_loadIfAlive ?_)
  rw [show ((T0 : Int)).toNat = T0 from rfl, h0]
  simp only [Option.isNone_some, Bool.false_eq_true, if_false]
  refine wpAny_bind (wpAny_field hz rfl (x := .bool b) rfl ?_)
  cases b with
  | true =>
    have e : ((Value.bool true) != .bool true) = false := by decide
    rw [e]
    simp only [Bool.false_eq_true, if_false]
    exact wpAny_pure (hQ s.heap hz rfl fun c o _ e => e)
  | false =>
    have e : ((Value.bool false) != .bool true) = true := by decide
    rw [e]
    simp only [if_true]
    refine wpAny_bind (wpAny_setField_rec hz (by simp) fun h' hz' hs' => ?_)
    exact wpAny_pure (hQ h' hz' hs'.1 fun c o hc e => hs'.extBut _ _ hc e)
theorem zip_more_item {z TI TO i1 i2 l1 l2 T0 : Addr} {k1 k2 : Nat} {xs ys : Array Value} {x y : Value} {bb : Bool} {o0 : Obj} {Q : Value → Shared → Prop} (D : ZipApart z TI TO i1 i2 l1 l2)
    (hz : ZipM s.heap z TI TO T0 bb) (h0 : s.heap.get? T0 = some o0) (hTI : IsPair s.heap TI (.ref i1) (.ref i2))
    (h1 : s.heap.IsListIter i1 l1 k1) (h2 : s.heap.IsListIter i2 l2 k2) (hl1 : s.heap.IsList l1 xs) (hl2 : s.heap.IsList l2 ys) (hx : xs[k1]? = some x) (hy : ys[k2]? = some y)
    (hQ : ∀ h', ZipM h' z TI TO T0 true → h'.IsListIter i1 l1 (k1 + 1) → h'.IsListIter i2 l2 (k2 + 1) → IsPair h' s.heap.objs.size x y → h'.objs.size = s.heap.objs.size + 1 →
      (∀ c o, c ≠ z → c ≠ i1 → c ≠ i2 → s.heap.get? c = some o → h'.get? c = some o) → Q (.ref s.heap.objs.size) { s with heap := h' }) :
    wpAny (model prog w) A (Builtin.«zip.__next__» ⟨[.ref z], []⟩) (fun fin s' => ∃ v, fin = .done (.ret v) ∧ Q v s') E s := by
  show wpAny _ _ (field (.ref z) 2 >>= _) _ _ _
  refine wpAny_bind (wpAny_field hz rfl (x := .bool false) rfl ?_)
  show wpAny _ _ (field (.ref z) 3 >>= _) _ _ _
  refine wpAny_bind (wpAny_field hz rfl (x := .ref TI) rfl ?_)
  refine wpAny_bind (wpAny_seqItems hTI rfl ?_)
  show wpAny _ _ (Builtin.SmallTypes.ownedTupleIsFree (.ref z) >>= _) _ _ _
  refine wpAny_bind (zip_own hz h0 fun h₁ hz₁ hsz₁ hk₁ => ?_)
  have hx1 : ∀ c o, c ≠ z → s.heap.get? c = some o → h₁.get? c = some o := hk₁
  simp only [Bool.false_eq_true, if_false]
  refine wpAny_bind ?_
  first
  | rw [List.forIn_toArray]
  | (rw [← Array.forIn_toList]; simp only [List.toList_toArray])
  | rw [← Array.forIn_toList]
  simp only [List.forIn_cons, List.forIn_nil]
  refine wpAny_bind (wpAny_bind (wpAny_holding ?_))
  show wpAny _ _ (Builtin.SmallTypes.nextOf (.ref i1) >>= _) _ _ _
  refine wpAny_bind (wpAny_nextOf_list_item (h1.at fun o e => hx1 _ o D.i1z e) (hl1.at fun o e => hx1 _ o D.l1z e) hx fun h₂ h1₂ hs₂ => wpAny_pure ?_)
  try dsimp only
  refine wpAny_pure ?_
  try dsimp only
  refine wpAny_bind (wpAny_bind (wpAny_holding ?_))
  show wpAny _ _ (Builtin.SmallTypes.nextOf (.ref i2) >>= _) _ _ _
  refine wpAny_bind (wpAny_nextOf_list_item ((h2.at fun o e => hx1 _ o D.i2z e).extBut hs₂.extBut D.i12.symm) ((hl2.at fun o e => hx1 _ o D.l2z e).extBut hs₂.extBut D.l2i1) hy fun h₃ h2₃ hs₃ => wpAny_pure ?_)
  try dsimp only
  refine wpAny_pure ?_
  try dsimp only
  refine wpAny_pure ?_
  try dsimp only
  refine wpAny_bind (wpAny_newTuple (hsz := by show 2 ≤ sizeLine; decide) ?_)
  have hsz : h₃.objs.size = s.heap.objs.size := by rw [hs₃.1, hs₂.1, hsz₁]
  have up : ∀ c o, h₃.get? c = some o → (h₃.push { cls := .type "tuple", data := .seq #[x, y] }).get? c = some o := fun c o e => Heap.get?_push_of_some _ e
  have hz₃ : ZipM h₃ z TI TO T0 true := hs₃.extBut _ _ D.i2z.symm (hs₂.extBut _ _ D.i1z.symm hz₁)
  have hT := Heap.get?_push_size h₃ (o := { cls := .type "tuple", data := .seq #[x, y] }) rfl
  refine wpAny_pure ⟨_, rfl, ?_⟩
  have := hQ (h₃.push { cls := .type "tuple", data := .seq #[x, y] }) (up _ _ hz₃) (((h1₂.extBut hs₃.extBut D.i12)).at fun o e => up _ o e) (h2₃.at fun o e => up _ o e) (by rw [← hsz]; exact hT) (by rw [Heap.size_push, hsz]) fun c o c1 c2 c3 e => up _ _ (hs₃.extBut _ _ c3 (hs₂.extBut _ _ c2 (hk₁ c o c1 e)))
  rw [← hsz] at this
  exact this
theorem zip_more_end {z TI TO i1 i2 l1 l2 T0 : Addr} {k1 k2 : Nat} {xs ys : Array Value} {bb : Bool} {o0 : Obj} {Q : Fin → Shared → Prop} (hh : A.handled = none) (D : ZipApart z TI TO i1 i2 l1 l2)
    (hz : ZipM s.heap z TI TO T0 bb) (h0 : s.heap.get? T0 = some o0) (hTI : IsPair s.heap TI (.ref i1) (.ref i2))
    (h1 : s.heap.IsListIter i1 l1 k1) (hl1 : s.heap.IsList l1 xs) (hx : xs[k1]? = none)
    (hE : ∀ h' e, (∀ c o, c ≠ z → c ≠ i1 → s.heap.get? c = some o → h'.get? c = some o) → (∃ o, h'.get? e = some o ∧ o.cls = .type "StopIteration") → E (.ref e) { s with heap := h' }) :
    wpAny (model prog w) A (Builtin.«zip.__next__» ⟨[.ref z], []⟩) Q E s := by
  show wpAny _ _ (field (.ref z) 2 >>= _) _ _ _
  refine wpAny_bind (wpAny_field hz rfl (x := .bool false) rfl ?_)
  show wpAny _ _ (field (.ref z) 3 >>= _) _ _ _
  refine wpAny_bind (wpAny_field hz rfl (x := .ref TI) rfl ?_)
  refine wpAny_bind (wpAny_seqItems hTI rfl ?_)
  show wpAny _ _ (Builtin.SmallTypes.ownedTupleIsFree (.ref z) >>= _) _ _ _
  refine wpAny_bind (zip_own hz h0 fun h₁ hz₁ hsz₁ hk₁ => ?_)
  simp only [Bool.false_eq_true, if_false]
  refine wpAny_bind ?_
  first
  | rw [List.forIn_toArray]
  | (rw [← Array.forIn_toList]; simp only [List.toList_toArray])
  | rw [← Array.forIn_toList]
  simp only [List.forIn_cons, List.forIn_nil]
  refine wpAny_bind (wpAny_bind (wpAny_holding ?_))
  show wpAny _ _ (Builtin.SmallTypes.nextOf (.ref i1) >>= _) _ _ _
  exact wpAny_bind (wpAny_nextOf_list_end hh (h1.at fun o e => hk₁ _ o D.i1z e) (hl1.at fun o e => hk₁ _ o D.l1z e) hx fun h₂ e hs₂ he => hE h₂ e (fun c o c1 c2 x => hs₂ _ _ c2 (hk₁ c o c1 x)) he)
theorem next_more_item {z TI TO i1 i2 l1 l2 T0 : Addr} {k1 k2 : Nat} {xs ys : Array Value} {x y : Value} {bb : Bool} {o0 : Obj} {Q : Option Value → Shared → Prop} (D : ZipApart z TI TO i1 i2 l1 l2)
    (hz : ZipM s.heap z TI TO T0 bb) (h0 : s.heap.get? T0 = some o0) (hTI : IsPair s.heap TI (.ref i1) (.ref i2))
    (h1 : s.heap.IsListIter i1 l1 k1) (h2 : s.heap.IsListIter i2 l2 k2) (hl1 : s.heap.IsList l1 xs) (hl2 : s.heap.IsList l2 ys) (hx : xs[k1]? = some x) (hy : ys[k2]? = some y)
    (hQ : ∀ h', ZipM h' z TI TO T0 true → h'.IsListIter i1 l1 (k1 + 1) → h'.IsListIter i2 l2 (k2 + 1) → IsPair h' s.heap.objs.size x y → h'.objs.size = s.heap.objs.size + 1 →
      (∀ c o, c ≠ z → c ≠ i1 → c ≠ i2 → s.heap.get? c = some o → h'.get? c = some o) → Q (some (.ref s.heap.objs.size)) { s with heap := h' }) :
    wpAny (model prog w) A (pyNext (.ref z)) Q E s := by
  have hT : s.TypeIs (.ref z) "zip" := ⟨_, hz, rfl⟩
  unfold pyNext
  exact wpAny_bind (wpAny_attempt (wpAny_callSpecial?_slot (name := Str.ofString "__next__") hT F.slot_zip_next
    (wpAny_call_entry F.slot_zip_next hT F.entry_zip_next
      (zip_more_item D hz h0 hTI h1 h2 hl1 hl2 hx hy fun h' a1 a2 a3 a4 a5 a6 => wpAny_pure (hQ h' a1 a2 a3 a4 a5 a6)) (F.args_zip_next_1 _))))
theorem next_more_end {z TI TO i1 i2 l1 l2 T0 : Addr} {k1 : Nat} {xs : Array Value} {bb : Bool} {o0 : Obj} {Q : Option Value → Shared → Prop} (hh : A.handled = none) (D : ZipApart z TI TO i1 i2 l1 l2)
    (hz : ZipM s.heap z TI TO T0 bb) (h0 : s.heap.get? T0 = some o0) (hTI : IsPair s.heap TI (.ref i1) (.ref i2))
    (h1 : s.heap.IsListIter i1 l1 k1) (hl1 : s.heap.IsList l1 xs) (hx : xs[k1]? = none)
    (hQ : ∀ h', (∀ c o, c ≠ z → c ≠ i1 → s.heap.get? c = some o → h'.get? c = some o) → Q none { s with heap := h' }) : wpAny (model prog w) A (pyNext (.ref z)) Q E s := by
  have hT : s.TypeIs (.ref z) "zip" := ⟨_, hz, rfl⟩
  unfold pyNext
  refine wpAny_bind (wpAny_attempt (wpAny_callSpecial?_slot (name := Str.ofString "__next__") hT F.slot_zip_next
    (wpAny_call_entry F.slot_zip_next hT F.entry_zip_next (zip_more_end (k2 := 0) (ys := xs) hh D hz h0 hTI h1 hl1 hx fun h' e hk he => ?_) (F.args_zip_next_1 _))))
  obtain ⟨o, ho, hc⟩ := he
  refine wpAny_bind (wpAny_isInstance (T := "StopIteration") (b := true) ⟨o, ho, hc⟩ isSubtype_stop ?_)
  exact wpAny_pure (hQ _ hk)
end
end A8
set_option Elab.async false
set_option linter.all false
set_option maxRecDepth 100000
set_option maxHeartbeats 4000000
/-! list(zip(a, b)): the loop, over the tracked heap -/
namespace A8
open PySem PySem.Spec PyProof.Rows L2
/-- the list at S holds new pairs -/
inductive Zp (H0 : Hp) (S : Addr) : List (V × V) → List V → Hp → Prop where
  | nil : H0 S = none → Zp H0 S [] [] (upd H0 S (.lst []))
  | snoc {ps : List (V × V)} {ts : List V} {H : Hp} {T : Addr} {x y : V} : Zp H0 S ps ts H → H T = none → Zp H0 S (ps ++ [(x, y)]) (ts ++ [.ref T]) (upd (upd H T (.tup [x, y])) S (.lst (ts ++ [.ref T])))
theorem Zp.at {H0 H : Hp} {S : Addr} {ps : List (V × V)} {ts : List V} (h : Zp H0 S ps ts H) : H S = some (.lst ts) ∧ H0 S = none ∧ Ex H0 H ∧ ts.length = ps.length := by
  induction h with
  | nil h => exact ⟨upd_same, h, Ex.new h, rfl⟩
  | @snoc ps ts H T x y h hT ih =>
    obtain ⟨i1, i2, i3, i4⟩ := ih
    refine ⟨upd_same, i2, ?_, by rw [List.length_append, List.length_append, i4]; rfl⟩
    exact Ex.mut (i3.trans (Ex.new hT)) i2
section
variable {X : Cx} {pins : List (Addr × Obj)} {σ : L2.St}
theorem zloop {A : Around} {z TI TO i1 i2 a b S T0 : Addr} {xs ys : List V} {H0 : Hp} {res : Value} {R : Result → Shared → Prop} (hh : A.handled = none) (D : ZipApart z TI TO i1 i2 a b)
    (hqx : SqL X.K H0 a xs) (hqy : SqL X.K H0 b ys) (hl : xs.length = ys.length) (hl2 : xs.length ≤ 1000) (hSz : S ∉ [z, TI, i1, i2]) (hT0 : T0 ≠ S)
    (hR : ∀ s' H' ts', Inv X pins σ H' s' → Zp H0 S (xs.zip ys) ts' H' → R (.ok (.ret res)) s') :
    ∀ (k i : Nat) (s : Shared) (H : Hp) (ts : List V), xs.length - i = k → i ≤ xs.length → Inv X pins σ H s → Zp H0 S ((xs.zip ys).take i) ts H → (∃ bb, ZipM s.heap z TI TO T0 bb) → (∃ l, H T0 = some (.tup l)) →
      IsPair s.heap TI (.ref i1) (.ref i2) → s.heap.IsListIter i1 a i → s.heap.IsListIter i2 b i → (∀ c ∈ [z, TI, i1, i2], FpOk X pins H c) →
      codeAny (model X.prog X.w) A (.builtin "list.extend.loop" ⟨[.ref S, .ref z, res], []⟩) R s := by
  intro k
  induction k with
  | zero =>
    intro i s H ts hk hi I hz ⟨bb, hZ⟩ ⟨l, hT⟩ hTI h1 h2 hf
    have hin : i = xs.length := by omega
    subst hin
    obtain ⟨z1, z2, z3, z4⟩ := hz.at
    obtain ⟨its, r, pl, _⟩ := I.list (ex_l z3 hqx)
    obtain ⟨_, itT, rT, eT⟩ := I.hok T0 _ hT
    obtain ⟨oT, eT, _⟩ := eT
    refine codeAny_builtin F.entry_extend_loop ?_
    rw [Around.under_plainId F.plain_extend_loop _]
    show wpAny _ A.in1 (pyNext (.ref z) >>= _) _ _ s
    have rl := r.length
    refine wpAny_bind (next_more_end (by exact hh) D hZ eT hTI h1 pl.isList (by simp; omega) fun h' hk' => ?_)
    have hlen : (xs.zip ys).length = xs.length := by rw [List.length_zip]; omega
    rw [List.take_of_length_le (by omega)] at hz
    refine wpAny_pure (hR _ H ts (I.turnedL (t' := s.toks) (ch := [z, i1]) (fun c o hc e => hk' c o (fun q => hc (by simp [q])) (fun q => hc (by simp [q])) e) fun c hc => hf c ?_) hz)
    simp at hc ⊢
    rcases hc with rfl | rfl <;> simp
  | succ k ih =>
    intro i s H ts hk hi I hz ⟨bb, hZ⟩ ⟨l, hT⟩ hTI h1 h2 hf
    have hlt : i < xs.length := by omega
    obtain ⟨z1, z2, z3, z4⟩ := hz.at
    obtain ⟨its, r, pl, _⟩ := I.list (ex_l z3 hqx)
    obtain ⟨its2, r2, pl2, _⟩ := I.list (ex_l z3 hqy)
    obtain ⟨_, itT, rT, eT⟩ := I.hok T0 _ hT
    obtain ⟨oT, eT, _⟩ := eT
    obtain ⟨u, hu, ru⟩ := r.get (List.getElem?_eq_getElem hlt)
    obtain ⟨u2, hu2, ru2⟩ := r2.get (List.getElem?_eq_getElem (show i < ys.length by omega))
    refine codeAny_builtin F.entry_extend_loop ?_
    rw [Around.under_plainId F.plain_extend_loop _]
    show wpAny _ A.in1 (pyNext (.ref z) >>= _) _ _ s
    refine wpAny_bind (next_more_item D hZ eT hTI h1 h2 pl.isList pl2.isList (x := u) (y := u2) (by simpa using hu) (by simpa using hu2) fun h' a1 a2 a3 a4 a5 a6 => ?_)
    have hTn : H s.heap.objs.size = none := I.hok.fresh (Nat.le_refl _)
    have new : ObjOk X.prog X.w (upd H s.heap.objs.size (.tup [xs[i], ys[i]])) h' s.heap.objs.size (.tup [xs[i], ys[i]]) :=
      ⟨by show 2 ≤ sizeLine; decide, [u, u2], .cons ru (.cons ru2 .nil), ⟨_, a4, rfl, _, rfl⟩⟩
    have I1 : Inv X pins σ (upd H s.heap.objs.size (.tup [xs[i], ys[i]])) { s with heap := h' } :=
      I.turnedNew (t' := s.toks) (ch := [z, i1, i2]) (fun c o hc e => a6 c o (fun q => hc (by simp [q])) (fun q => hc (by simp [q])) (fun q => hc (by simp [q])) e) (fun c hc => hf c (by simp at hc ⊢; rcases hc with rfl | rfl | rfl <;> simp)) (Nat.le_refl _) new
    have hTS : S ≠ s.heap.objs.size := fun e => by rw [← e, z1] at hTn; cases hTn
    have hS1 : (upd H s.heap.objs.size (.tup [xs[i], ys[i]])) S = some (.lst ts) := by rw [upd_ne hTS]; exact z1
    obtain ⟨zz, acc, n, rr, eS⟩ := I1.hok S _ hS1
    have eS : h'.get? S = some { cls := .type "list", dict := none, data := .seq acc.toArray n, slots := #[] } := eS
    have rrl := rr.length
    have htl : ts.length ≤ 1000 := by rw [z4, List.length_take, List.length_zip]; omega
    show wpAny _ A.in1 (updateSeq S (·.push (.ref s.heap.objs.size)) >>= _) _ _ _
    refine wpAny_bind ?_
    have kk : (1000 : Nat) ≤ sizeLine := by decide
    refine wpAny_updateSeq eS rfl (wpAny_pure ⟨plainId_quiet F.plain_extend_loop _, ?_⟩) (by simp; omega) (by show (acc.toArray.push _).size ≤ sizeLine + 1; rw [Array.size_push]; simp; omega)
    have oth : ∀ c o, c ≠ S → h'.get? c = some o → (h'.update S (Obj.mapSeq (·.push (.ref s.heap.objs.size)))).get? c = some o := fun c o hc e => (Heap.get?_update_other _ _ (Ne.symm hc)).trans e
    have hS2 := Heap.get?_update_self (Obj.mapSeq (·.push (Value.ref s.heap.objs.size))) eS rfl
    have hS3 : ∃ c', (h'.update S (Obj.mapSeq (·.push (.ref s.heap.objs.size)))).get? S = some { cls := .type "list", dict := none, data := .seq (acc ++ [Value.ref s.heap.objs.size]).toArray c', slots := #[] } := by
      rw [hS2]
      simp [Obj.mapSeq]
    obtain ⟨c', hS3⟩ := hS3
    have g1 : (ts ++ [V.ref s.heap.objs.size]).length ≤ sizeLine := by
      rw [List.length_append, List.length_singleton]
      exact Nat.le_trans (show ts.length + 1 ≤ 1000 from by rw [z4, List.length_take, List.length_zip]; omega) kk
    have I2 : Inv X pins σ (upd (upd H s.heap.objs.size (.tup [xs[i], ys[i]])) S (.lst (ts ++ [.ref s.heap.objs.size]))) { s with heap := h'.update S (Obj.mapSeq (·.push (.ref s.heap.objs.size))) } :=
      Inv.write (s := { s with heap := h' }) (h' := h'.update S (Obj.mapSeq (·.push (.ref s.heap.objs.size)))) (t' := s.toks) I1 (by rw [hS1]; trivial) (.inl rfl) (fun c o hc e => oth c o hc e) ⟨_, hS2⟩
        ⟨g1, acc ++ [.ref s.heap.objs.size], c', rr.append (.cons (show L2.RelV (.ref s.heap.objs.size) (.ref s.heap.objs.size) from rfl) .nil), hS3⟩
    have hex : ∀ c ∈ [z, TI, i1, i2], c ≠ s.heap.objs.size ∧ c ≠ S := fun c hc => by
      refine ⟨fun e => ?_, fun e => hSz (e ▸ hc)⟩
      have hc' : c < s.heap.objs.size := by
        simp only [List.mem_cons, List.not_mem_nil, or_false] at hc
        rcases hc with q | q | q | q
        · rw [q]; exact Heap.lt_size hZ
        · rw [q]; exact Heap.lt_size hTI
        · rw [q]; obtain ⟨_, e1, _⟩ := h1; exact Heap.lt_size e1
        · rw [q]; obtain ⟨_, e1, _⟩ := h2; exact Heap.lt_size e1
      exact absurd e (Nat.ne_of_lt hc')
    have e3 : (xs.zip ys).take (i + 1) = (xs.zip ys).take i ++ [(xs[i], ys[i])] := by
      rw [List.take_add_one]
      have : (xs.zip ys)[i]? = some (xs[i], ys[i]) := by
        rw [List.getElem?_zip_eq_some]
        exact ⟨List.getElem?_eq_getElem hlt, List.getElem?_eq_getElem (show i < ys.length by omega)⟩
      rw [this]
      rfl
    refine ih (i + 1) _ _ (ts ++ [.ref s.heap.objs.size]) (by omega) hlt I2 (by rw [e3]; exact .snoc hz hTn) ⟨true, oth _ _ (hex z (by simp)).2 a1⟩ ⟨l, ?_⟩ (oth _ _ (hex TI (by simp)).2 ?_) (a2.at fun o e => oth _ o (hex i1 (by simp)).2 e) (a3.at fun o e => oth _ o (hex i2 (by simp)).2 e) fun c hc => ?_
    · rw [upd_ne hT0, upd_ne (ne_of_none hT hTn)]
      exact hT
    · exact a6 _ _ D.TIz D.TIi1 D.TIi2 hTI
    · obtain ⟨f1, f2⟩ := hf c hc
      refine ⟨?_, f2⟩
      rw [upd_ne (hex c hc).2, upd_ne (hex c hc).1]
      exact f1
end
end A8
set_option Elab.async false
set_option linter.all false
set_option maxRecDepth 100000
set_option maxHeartbeats 4000000
/-! list(zip(a, b)) -/
namespace A8
open PySem PySem.Spec PyProof.Rows L2
theorem zip_nolen : typeLookup (.type "zip") "__len__" = pure none := by rw [typeLookup_type, builtinLookup_eq_fast]; kernel_rfl
theorem zip_nohint : typeLookup (.type "zip") "__length_hint__" = pure none := by rw [typeLookup_type, builtinLookup_eq_fast]; kernel_rfl
section
variable {X : Cx} {pins : List (Addr × Obj)} {σ : L2.St} {E : Value → Shared → Prop}
/-- the loop from its first turn -/
theorem zloop0 {A : Around} {z TI TO i1 i2 a b S : Addr} {xs ys : List V} {H0 : Hp} {res : Value} {R : Result → Shared → Prop} (hh : A.handled = none) (D : ZipApart z TI TO i1 i2 a b)
    (hqx : SqL X.K H0 a xs) (hqy : SqL X.K H0 b ys) (hl : xs.length = ys.length) (hl2 : xs.length ≤ 1000) (hl1 : 1 ≤ xs.length) (hSz : S ∉ [z, TI, i1, i2]) (hSO : S ≠ TO)
    (hR : ∀ s' H' ts', Inv X pins σ H' s' → Zp H0 S (xs.zip ys) ts' H' → R (.ok (.ret res)) s') {s : Shared} (hS0 : H0 S = none) (I : Inv X pins σ (upd H0 S (.lst [])) s)
    (hz : IsZip s.heap z TI TO .none) (hTI : IsPair s.heap TI (.ref i1) (.ref i2)) (hTO : ∃ x y, IsPair s.heap TO x y) (h1 : s.heap.IsListIter i1 a 0) (h2 : s.heap.IsListIter i2 b 0)
    (hf : ∀ c ∈ [z, TI, TO, i1, i2], FpOk X pins (upd H0 S (.lst [])) c) :
    codeAny (model X.prog X.w) A (.builtin "list.extend.loop" ⟨[.ref S, .ref z, res], []⟩) R s := by
  obtain ⟨x0, y0, hTO⟩ := hTO
  have zp : Zp H0 S [] [] (upd H0 S (.lst [])) := .nil hS0
  have z3 := zp.at.2.2.1
  obtain ⟨its, r, pl, _⟩ := I.list (ex_l z3 hqx)
  obtain ⟨its2, r2, pl2, _⟩ := I.list (ex_l z3 hqy)
  obtain ⟨u, hu, ru⟩ := r.get (List.getElem?_eq_getElem (show 0 < xs.length by omega))
  obtain ⟨u2, hu2, ru2⟩ := r2.get (List.getElem?_eq_getElem (show 0 < ys.length by omega))
  refine codeAny_builtin F.entry_extend_loop ?_
  rw [Around.under_plainId F.plain_extend_loop _]
  show wpAny _ A.in1 (pyNext (.ref z) >>= _) _ _ s
  refine wpAny_bind (wpAny_pyNext_zip_item D hz hTI hTO h1 h2 pl.isList pl2.isList (x := u) (y := u2) (by simpa using hu) (by simpa using hu2) fun h' a1 _ a2 a3 a4 a5 a6 => ?_)
  have hTn : (upd H0 S (.lst [])) s.heap.objs.size = none := I.hok.fresh (Nat.le_refl _)
  have new : ObjOk X.prog X.w (upd (upd H0 S (.lst [])) s.heap.objs.size (.tup [xs[0], ys[0]])) h' s.heap.objs.size (.tup [xs[0], ys[0]]) :=
    ⟨by show 2 ≤ sizeLine; decide, [u, u2], .cons ru (.cons ru2 .nil), ⟨_, a4, rfl, _, rfl⟩⟩
  have I1 : Inv X pins σ (upd (upd H0 S (.lst [])) s.heap.objs.size (.tup [xs[0], ys[0]])) { s with heap := h' } :=
    I.turnedNew (t' := s.toks) (ch := [z, TO, i1, i2]) (fun c o hc e => a6 c o (fun q => hc (by simp [q])) (fun q => hc (by simp [q])) (fun q => hc (by simp [q])) (fun q => hc (by simp [q])) e) (fun c hc => hf c (by simp at hc ⊢; rcases hc with rfl | rfl | rfl | rfl <;> simp)) (Nat.le_refl _) new
  have hTS : S ≠ s.heap.objs.size := fun e => by rw [← e, upd_same] at hTn; cases hTn
  have hS1 : (upd (upd H0 S (.lst [])) s.heap.objs.size (.tup [xs[0], ys[0]])) S = some (.lst []) := by rw [upd_ne hTS]; exact upd_same
  obtain ⟨zz, acc, n, rr, eS⟩ := I1.hok S _ hS1
  cases rr
  have eS : h'.get? S = some { cls := .type "list", dict := none, data := .seq #[] n, slots := #[] } := eS
  show wpAny _ A.in1 (updateSeq S (·.push (.ref s.heap.objs.size)) >>= _) _ _ _
  refine wpAny_bind ?_
  refine wpAny_updateSeq eS rfl (wpAny_pure ⟨plainId_quiet F.plain_extend_loop _, ?_⟩) (by decide) (by show 1 ≤ sizeLine + 1; decide)
  have oth : ∀ c o, c ≠ S → h'.get? c = some o → (h'.update S (Obj.mapSeq (·.push (.ref s.heap.objs.size)))).get? c = some o := fun c o hc e => (Heap.get?_update_other _ _ (Ne.symm hc)).trans e
  have hS2 := Heap.get?_update_self (Obj.mapSeq (·.push (Value.ref s.heap.objs.size))) eS rfl
  have hS3 : ∃ c', (h'.update S (Obj.mapSeq (·.push (.ref s.heap.objs.size)))).get? S = some { cls := .type "list", dict := none, data := .seq [Value.ref s.heap.objs.size].toArray c', slots := #[] } := by
    rw [hS2]
    simp [Obj.mapSeq]
  obtain ⟨c', hS3⟩ := hS3
  have I2 : Inv X pins σ (upd (upd (upd H0 S (.lst [])) s.heap.objs.size (.tup [xs[0], ys[0]])) S (.lst ([] ++ [.ref s.heap.objs.size]))) { s with heap := h'.update S (Obj.mapSeq (·.push (.ref s.heap.objs.size))) } :=
    Inv.write (s := { s with heap := h' }) (h' := h'.update S (Obj.mapSeq (·.push (.ref s.heap.objs.size)))) (t' := s.toks) I1 (by rw [hS1]; trivial) (.inl rfl) (fun c o hc e => oth c o hc e) ⟨_, hS2⟩
      ⟨by show 1 ≤ sizeLine; decide, [.ref s.heap.objs.size], c', .cons (show L2.RelV (.ref s.heap.objs.size) (.ref s.heap.objs.size) from rfl) .nil, hS3⟩
  have hex : ∀ c ∈ [z, TI, i1, i2], c ≠ s.heap.objs.size ∧ c ≠ S := fun c hc => by
    refine ⟨fun e => ?_, fun e => hSz (e ▸ hc)⟩
    have hc' : c < s.heap.objs.size := by
      simp only [List.mem_cons, List.not_mem_nil, or_false] at hc
      rcases hc with q | q | q | q
      · rw [q]; exact Heap.lt_size hz
      · rw [q]; exact Heap.lt_size hTI
      · rw [q]; obtain ⟨_, e1, _⟩ := h1; exact Heap.lt_size e1
      · rw [q]; obtain ⟨_, e1, _⟩ := h2; exact Heap.lt_size e1
    exact absurd e (Nat.ne_of_lt hc')
  have e3 : (xs.zip ys).take 1 = [] ++ [(xs[0], ys[0])] := by
    cases xs with
    | nil => cases hl1
    | cons x xs =>
      cases ys with
      | nil => cases hl
      | cons y ys => rfl
  refine zloop (T0 := s.heap.objs.size) hh D hqx hqy hl hl2 hSz (Ne.symm hTS) hR (xs.length - 1) 1 _ _ _ rfl hl1 I2 (by rw [e3]; exact .snoc zp hTn) ⟨false, oth _ _ (hex z (by simp)).2 a1⟩ ⟨[xs[0], ys[0]], ?_⟩ (oth _ _ (hex TI (by simp)).2 ?_) (a2.at fun o e => oth _ o (hex i1 (by simp)).2 e) (a3.at fun o e => oth _ o (hex i2 (by simp)).2 e) fun c hc => ?_
  · rw [upd_ne (Ne.symm hTS)]
    exact upd_same
  · exact a6 _ _ D.TIz D.TITO D.TIi1 D.TIi2 hTI
  · obtain ⟨f1, f2⟩ := hf c (by simp at hc ⊢; rcases hc with rfl | rfl | rfl | rfl <;> simp)
    refine ⟨?_, f2⟩
    rw [upd_ne (hex c hc).2, upd_ne (hex c hc).1]
    exact f1
end
end A8
set_option Elab.async false
set_option linter.all false
set_option maxRecDepth 100000
set_option maxHeartbeats 4000000
/-! list(z), z a zip -/
namespace A8
open PySem PySem.Spec PyProof.Rows L2
section
variable {prog : Program} {w : World} {A : Around} {E : Value → Shared → Prop} {s : Shared}
theorem list_of_zip {z TI TO : Addr} {Q : Value → Shared → Prop} (K : Shared → Prop) (hz : IsZip s.heap z TI TO .none)
    (hloop : ∀ (A' : Around) (h3 : Heap) (c : Nat) (R : Result → Shared → Prop), A'.handled = A.handled → (∀ b o, s.heap.get? b = some o → h3.get? b = some o) → h3.get? s.heap.objs.size = some { cls := .type "list", dict := none, data := .seq #[] c, slots := #[] } →
      (∀ s', K s' → R (.ok (.ret .none)) s') → codeAny (model prog w) A' (.builtin "list.extend.loop" ⟨[.ref s.heap.objs.size, .ref z, .none], []⟩) R { s with heap := h3 })
    (hQ : ∀ s', K s' → Q (.ref s.heap.objs.size) s') : wpAny (model prog w) A (call (.type "list") [.ref z]) Q E s := by
  refine callType_codes (Q₁ := fun obj s₁ => obj = .ref s.heap.objs.size ∧ s₁ = { s with heap := s.heap.push { cls := .type "list", data := .seq #[] } }) F.called_list (F.typeCall_list_1 _) F.entry_list_init
    (code_list_new _ ⟨rfl, rfl⟩) fun obj s₁ h₁ => ?_
  obtain ⟨rfl, rfl⟩ := h₁
  have hS : (s.heap.push { cls := .type "list", data := .seq #[] }).get? s.heap.objs.size = some { cls := .type "list", data := .seq #[] } := Heap.get?_push_size _ rfl
  have hSI : s.heap.objs.size ≠ z := Nat.ne_of_gt (Heap.lt_size hz)
  refine ⟨⟨_, hS, rfl⟩, F.args_list_init_2 _ _, ?_⟩
  show wpAny _ A.in1.in1 (do let old ← Builtin.List.listItems (.ref s.heap.objs.size); Builtin.List.listUpdate (.ref s.heap.objs.size) (fun _ => #[]); letGo old.toList.reverse; Builtin.List.listExtendWith (.ref s.heap.objs.size) (.ref z) .none) _ _ _
  refine wpAny_bind ?_
  unfold Builtin.List.listItems
  refine wpAny_bind (wpAny_seqItems hS rfl (wpAny_pure ?_))
  show wpAny _ A.in1.in1 (updateSeq s.heap.objs.size (fun _ => #[]) >>= fun _ => letGo (#[] : Array Value).toList.reverse >>= fun _ => Builtin.List.listExtendWith (.ref s.heap.objs.size) (.ref z) .none) _ _ _
  refine wpAny_bind (wpAny_updateSeq hS rfl ?_)
  have hS₂ := Heap.get?_update_self (Obj.mapSeq (fun _ => (#[] : Array Value))) hS rfl
  have oth1 : ∀ b o, s.heap.get? b = some o → ((s.heap.push { cls := .type "list", data := .seq #[] }).update s.heap.objs.size (Obj.mapSeq (fun _ => (#[] : Array Value)))).get? b = some o :=
    fun b o e => (Heap.get?_update_other _ _ (Nat.ne_of_gt (Heap.lt_size e))).trans (Heap.get?_push_of_some _ e)
  refine wpAny_bind (wpAny_letGo ?_)
  generalize (s.heap.push { cls := .type "list", data := .seq #[] }).update s.heap.objs.size (Obj.mapSeq (fun _ => (#[] : Array Value))) = h2 at hS₂ oth1
  have hz2 : IsZip h2 z TI TO .none := oth1 _ _ hz
  have hT2 : Shared.TypeIs { s with heap := h2 } (.ref z) "zip" := ⟨_, hz2, rfl⟩
  unfold Builtin.List.listExtendWith
  refine wpAny_bind (wpAny_typeOf hT2 ?_)
  have h1 : Builtin.List.listSameRef (.ref s.heap.objs.size) (.ref z) = false := by simp [Builtin.List.listSameRef, hSI]
  have h2' : (Value.type "zip" == Value.type "list") = false := by decide
  have h3' : (Value.type "zip" == Value.type "tuple") = false := by decide
  simp only [h1, h2', h3', Bool.or_false, Bool.false_eq_true, if_false]
  refine wpAny_bind (wpAny_pyIter_zip hz2 ?_)
  refine wpAny_bind (wpAny_holding ?_)
  unfold Builtin.List.listLengthHint
  refine wpAny_bind (wpAny_specialOf hT2 zip_nolen ?_)
  show wpAny _ A.in1.in1 (specialOf (Value.ref z) (Str.ofString "__length_hint__") >>= _) _ _ _
  refine wpAny_bind (wpAny_specialOf hT2 zip_nohint ?_)
  refine wpAny_pure ?_
  show wpAny _ A.in1.in1 (rule "list.extend.makes-room" >>= fun _ => Builtin.List.listTouch (.ref s.heap.objs.size) >>= fun _ =>
    again (.builtin "list.extend.loop" ⟨[.ref s.heap.objs.size, .ref z, .none], []⟩)) _ _ _
  refine wpAny_bind (wpAny_rule ?_)
  refine wpAny_bind ?_
  show wpAny _ A.in1.in1 (updateSeq s.heap.objs.size (·.push .none) >>= fun _ => updateSeq s.heap.objs.size (·.pop)) _ _ _
  refine wpAny_bind (wpAny_updateSeq hS₂ rfl ?_)
  have hS₃ := Heap.get?_update_self (Obj.mapSeq (·.push Value.none)) hS₂ rfl
  refine wpAny_updateSeq hS₃ rfl ?_
  have hS₄ := Heap.get?_update_self (Obj.mapSeq (·.pop)) hS₃ rfl
  have hS₅ : ∃ c, ((h2.update s.heap.objs.size (Obj.mapSeq (·.push Value.none))).update s.heap.objs.size (Obj.mapSeq (·.pop))).get? s.heap.objs.size = some { cls := .type "list", dict := none, data := .seq #[] c, slots := #[] } := by
    rw [hS₄]
    simp [Obj.mapSeq]
  obtain ⟨c, hS₅⟩ := hS₅
  refine wpAny_pure ⟨plainId_quiet F.plain_extend_loop _, hloop A.in1 _ c _ rfl (fun b o e => ?_) hS₅ fun s' hK => ⟨rfl, hQ s' hK⟩⟩
  have hb : s.heap.objs.size ≠ b := Nat.ne_of_gt (Heap.lt_size e)
  exact (Heap.get?_update_other _ _ hb).trans ((Heap.get?_update_other _ _ hb).trans (oth1 b o e))
end
theorem aux5 (N c : Nat) (h : c = N + 4 ∨ c = N + 2 ∨ c = N + 3 ∨ c = N ∨ c = N + 1) : c < N + 5 ∧ N ≤ c := by omega
section
variable {X : Cx} {pins : List (Addr × Obj)} {σ : L2.St}
/-- list(zip(a, b)) over the tracked heap -/
theorem call_listzip {a b : Addr} {xs ys : List V} {H : Hp} {s : Shared} {Q : VK} (hc : X.calm = true) (I : Inv X pins σ H s) (hqx : SqL X.K H a xs) (hqy : SqL X.K H b ys) (hl : xs.length = ys.length) (hl2 : xs.length ≤ 1000) (hl1 : 1 ≤ xs.length)
    (hQ : ∀ S H' ts, Zp H S (xs.zip ys) ts H' → Q (.ref S) H') {A1 : Around} :
    wpAny (model X.prog X.w) A1 (call (.type "zip") [.ref a, .ref b]) (fun zv s1 => wpAny (model X.prog X.w) X.A (call (.type "list") [zv]) (EP X pins σ Q) X.xe s1) X.xe s := by
  obtain ⟨its, rv, p1, _⟩ := I.list hqx
  obtain ⟨its2, rv2, p2, _⟩ := I.list hqy
  refine call_zip_2 p1.isList p2.isList fun h' hz hTI hTO h1 h2 hsz hk => ?_
  have I2 : Inv X pins σ H { s with heap := h' } := I.kept (t' := s.toks) hk
  refine list_of_zip (s := { s with heap := h' }) (fun s' => EP X pins σ Q (.ref h'.objs.size) s') hz (fun A' h3 c R ha hk3 hS3 hR => ?_) fun s' h => h
  have D := PySem.W.ktu_apart s.heap.objs.size a b p1.lt p2.lt
  have hS0 : H h'.objs.size = none := I2.hok.fresh (Nat.le_refl _)
  have I3 : Inv X pins σ (upd H h'.objs.size (.lst [])) { s with heap := h3 } :=
    I2.laid (t' := s.toks) hk3 (Nat.le_refl _) (show ObjOk X.prog X.w _ h3 _ (.lst []) from ⟨Nat.zero_le _, [], c, .nil, hS3⟩)
  have hne : ∀ c ∈ [s.heap.objs.size + 4, s.heap.objs.size + 2, s.heap.objs.size + 3, s.heap.objs.size, s.heap.objs.size + 1], c < h'.objs.size ∧ s.heap.objs.size ≤ c := fun c hcm => by
    rw [hsz]
    have e' : c = s.heap.objs.size + 4 ∨ c = s.heap.objs.size + 2 ∨ c = s.heap.objs.size + 3 ∨ c = s.heap.objs.size ∨ c = s.heap.objs.size + 1 := by simpa using hcm
    exact aux5 _ _ e'
  refine zloop0 (by rw [ha]; exact I.ok.hd hc) D hqx hqy hl hl2 hl1 (fun hm => ?_) (fun e => ?_) (fun s' H' ts' I' zp => hR s' ⟨.ref h'.objs.size, H', I', rfl, hQ _ _ _ zp⟩) hS0 I3 (hk3 _ _ hz) (hk3 _ _ hTI) ⟨_, _, hk3 _ _ hTO⟩ (h1.at fun o e => hk3 _ o e) (h2.at fun o e => hk3 _ o e) fun c hcm => ?_
  · exact absurd (hne h'.objs.size (by simp at hm ⊢; rcases hm with q | q | q | q <;> simp [q])).1 (Nat.lt_irrefl _)
  · exact absurd (hne h'.objs.size (by simp; exact .inr (.inr (.inl e)))).1 (Nat.lt_irrefl _)
  · obtain ⟨n1, n2⟩ := hne c hcm
    have hf := I.fpOk n2 (I.hok.fresh n2)
    refine ⟨?_, hf.2⟩
    rw [upd_ne (Nat.ne_of_lt n1)]
    exact hf.1
end
end A8
set_option Elab.async false
set_option linter.all false
set_option maxRecDepth 100000
set_option maxHeartbeats 4000000
/-! list(zip(a, b)) in the logic -/
namespace A8
open PySem PySem.Spec PyProof.Rows L2
theorem Zp.stp {K : PySem.W.Frag} {C : Addr} {hd : Hd} {F H0 H : Hp} {S : Addr} {ps : List (V × V)} {ts : List V} (z : Zp H0 S ps ts H) (w : Wd hd F H0) : ∀ qs : List (Dt × Dt), ps.length = qs.length →
    (∀ (i : Nat) p q, ps[i]? = some p → qs[i]? = some q → Rp K C F p.1 q.1 ∧ Rp K C F p.2 q.2) → ∃ F', Stp hd F H0 F' H ∧ F' S = none ∧ RpL K C F' ts (qs.map fun q => .tup [q.1, q.2]) := by
  induction z with
  | nil h =>
    intro qs hl _
    cases qs with
    | cons _ _ => cases hl
    | nil => exact ⟨F, Stp.own w h, w.ex.none h, .nil⟩
  | @snoc ps ts H T x y z hT ih =>
    intro qs hl hr
    rcases List.eq_nil_or_concat qs with rfl | ⟨qs, q, rfl⟩
    · simp at hl
    · rw [List.concat_eq_append] at hl hr ⊢
      rw [List.length_append, List.length_append] at hl
      have hl' : ps.length = qs.length := by simpa using hl
      obtain ⟨F', s, hF, r⟩ := ih qs hl' fun i p q' h1 h2 => hr i p q' (by rw [List.getElem?_append_left (List.getElem?_eq_some_iff.mp h1).1]; exact h1) (by rw [List.getElem?_append_left (List.getElem?_eq_some_iff.mp h2).1]; exact h2)
      obtain ⟨z1, z2, _, _⟩ := z.at
      have hTS : S ≠ T := fun e => by rw [e, hT] at z1; cases z1
      have s2 := Stp.new (o := .tup [x, y]) s.wd hT
      have s3 := s.trans s2
      have hF3 : (upd F' T (.tup [x, y])) S = none := by rw [upd_ne hTS]; exact hF
      obtain ⟨r1, r2⟩ := hr ps.length (x, y) q (by simp) (by rw [hl']; simp)
      refine ⟨_, Stp.mut s3 z2 hF3 (w.ne z2), hF3, ?_⟩
      rw [List.map_append]
      exact (r.mono s2.e.1).append (.cons (.tup upd_same (.cons (r1.mono s3.e.1) (.cons (r2.mono s3.e.1) .nil))) .nil)
section
variable {E : En} {f : Fm} {G : List Ki} {ea eb : Expr} {pos pos2 p p2 : Pos}
theorem ex_listzip {Rs : List Ki → Prop} {R : Ki → Prop} (hm : E.mg "list" = none) (hm2 : E.mg "zip" = none) (ha : AX E f [ea, eb] G Rs)
    (h : ∀ ks, Rs ks → ∃ das dbs : List Dt, ks = [.dat (.lst das), .dat (.lst dbs)] ∧ das.length = dbs.length ∧ 1 ≤ das.length ∧ das.length ≤ 1000 ∧ R (.dat (.lst ((das.zip dbs).map fun q => .tup [q.1, q.2]))))
    (hg : GlS f.sc "list" := by rfl) (hg2 : GlS f.sc "zip" := by rfl)
    (hs : ∀ env : Env, starEach [.Call (.Name "zip" p2) [ea, eb] [] pos2] env = (false, eval (.Call (.Name "zip" p2) [ea, eb] [] pos2) env) :: starEach [] env := by intro _; rfl)
    (hs2 : ∀ env : Env, starEach [ea, eb] env = (false, eval ea env) :: starEach [eb] env := by intro _; rfl) (hpl2 : ∀ env : Env, (backTo pos2 (starEach [eb] env)).any (·.1) = false := by intro _; rfl) :
    EX E f (.Call (.Name "list" p) [.Call (.Name "zip" p2) [ea, eb] [] pos2] [] pos) G R := fun X hX => by
  have g := hX.gl hg
  have g2 := hX.gl hg2
  have hcalm := hX.calm
  have ha' := ha X hX
  obtain ⟨C, rfl⟩ := hX.en
  refine ⟨fun pins s σ H Q I hq => ?_⟩
  refine wpAny_Call_Name_kw (ld_blt I g hm (show bootBuiltins "list" = some (.type "list") by decide +kernel) ?_ (by decide) (by decide))
  refine PyProof.Rows.callWith_type1 ?_ (hs _) rfl
  rw [hs]
  show wpAny _ _ (spliced ((false, eval (.Call (.Name "zip" p2) [ea, eb] [] pos2) X.env) :: backTo pos (starEach [] X.env))) _ _ s
  refine Calls.spliced_cons ?_
  refine wpAny_Call_Name_kw (ld_blt I g2 hm2 PyProof.Rows.boot_zip ?_ (by decide) (by decide))
  obtain ⟨F, w, t, k⟩ := hq
  refine PyProof.Rows.callWith_type1 (thn (ha'.run pos2 pins s σ H (fun vs H1 => ∃ F1 ks, Rs ks ∧ Stp f.hd F H F1 H1 ∧ KsOk X.K C f.hd F1 H1 ks vs) I ⟨F, w, t, fun ks vs F1 H1 r1 s1 k1 => ⟨F1, ks, r1, s1, k1⟩⟩) fun us s1 ⟨vs, H1, I1, rv, F1, ks, r1, st, k1⟩ => ?_) (hs2 _) (hpl2 _)
  obtain ⟨das, dbs, rfl, hl, hl1, hl2, hR⟩ := h ks r1
  cases k1 with
  | cons ka k1 =>
    cases k1 with
    | cons kb k1 =>
      cases k1
      cases (show Rp _ _ F1 _ (.lst das) from ka) with
      | @lst a _ _ ha0 ra =>
        cases (show Rp _ _ F1 _ (.lst dbs) from kb) with
        | @lst b _ _ hb0 rb =>
          cases rv with
          | cons q1 rv =>
            cases rv with
            | cons q2 rv =>
              cases rv
              cases q1
              cases q2
              rename_i xs ys
              have la := ra.length
              have lb := rb.length
              refine thn (call_listzip hcalm I1 (SqL.of (st.wd.ex _ _ ha0)) (SqL.of (st.wd.ex _ _ hb0)) (by omega) (by omega) (by omega) (Q := Q) fun S H' ts z => ?_) fun zv s2 h2 => Calls.spliced_nil h2
              obtain ⟨F2, s2, hF2, r2⟩ := z.stp st.wd (das.zip dbs) (by rw [List.length_zip, List.length_zip, la, lb]) fun i p q h1 h2 => by
                rw [List.getElem?_zip_eq_some] at h1 h2
                obtain ⟨v1, e1, e2⟩ := ra.get h2.1
                obtain ⟨v2, e3, e4⟩ := rb.get h2.2
                rw [h1.1] at e1
                rw [h1.2] at e3
                cases e1
                cases e3
                exact ⟨e2, e4⟩
              obtain ⟨z1, z2, _, _⟩ := z.at
              have s3 := Stp.freeze s2 z2 hF2 z1 (st.wd.ne z2)
              exact k (.dat (.lst ((das.zip dbs).map fun q => .tup [q.1, q.2]))) (.ref S) _ _ hR (st.trans s3) (Rp.lst upd_same (r2.mono (Ex.new hF2))) Fr.dat
end
end A8
set_option Elab.async false
set_option linter.all false
set_option maxRecDepth 100000
set_option maxHeartbeats 4000000
namespace A8
open PySem PySem.Spec PyProof.Rows L2
variable {E : En} {f : Fm} {G : List Ki} {e a b c : Expr} {es : List Expr} {pos p : Pos}
/-- a[:i], a a given list -/
theorem ed_slLq {l : List Dt} {i : Int} {p2 : Pos} (ha : ED E f a G (.lsq l)) (hb : ED E f b G (.int i)) : ED E f (.Subscript a (.Slice none (some b) none p2) pos) G (.lst (cutD l none (some i))) := fun X hX => by
  have ek : X.K = E.K := by obtain ⟨C, rfl⟩ := hX.en; rfl
  refine pe_w (pe_slice sl_list (ha X hX) po_none (po_some (hb X hX))) ?_
  rw [ek]
  rintro σ H Q ⟨F, w, t, q⟩
  refine ⟨F, w, t, ?_⟩
  rintro k v F1 H1 rfl s1 kv -
  refine ⟨F1, s1.wd, t.mono s1, ?_⟩
  rintro k2 v2 F2 H2 rfl s2 kv2 -
  rw [ko_int kv2]
  cases (show Rp E.K E.C F1 v (.lsq l) from kv) with
  | @lsq a xs _ h r =>
    refine ⟨i, rfl, a, xs, rfl, ex_l (s2.wd.ex) (ex_l s2.e.1 h), fun p hp => ?_⟩
    have s3 := Stp.new (o := .lst (cutV xs none (some i))) s2.wd hp
    exact q _ _ _ _ rfl ((s1.trans s2).trans s3) (Rp.lst upd_same (((r.mono s2.e.1).mono s3.e.1).cut none (some i))) Fr.dat
/-- int(i) -/
theorem ed_int1 {i : Int} (B : Bt E.mg) (ha : ED E f a G (.int i)) (hg : GlS f.sc "int" := by rfl) (hs : ∀ env : Env, starEach [a] env = (false, eval a env) :: starEach [] env := by intro _; rfl) : ED E f (.Call (.Name "int" p) [a] [] pos) G (.int i) :=
  ex_callTy (r := fun _ xs H Q => (∃ i, xs = [.int i] ∧ Q (.int i) H) ∨ ∃ k, xs = [.bl k] ∧ Q (.int (if k then 1 else 0)) H) (fun X _ _ => call_int1) B.int (ad_cons ha ad_nil hs) (fun ks q => by
    rw [q]
    intro F H vs w ks Q q
    cases ks with
    | cons k1 ks =>
      cases ks
      exact .inl ⟨i, by rw [ko_int k1], q (.dat (.int i)) _ F H rfl (Stp.refl w) (Rp.int i) Fr.dat⟩) (by decide +kernel) hg (by decide) (by decide) hs
end A8
set_option Elab.async false
set_option linter.all false
set_option maxRecDepth 100000
set_option maxHeartbeats 4000000
/-! sets of tuples of ints, up to 76 of them -/
namespace A8
open PySem PySem.Spec PyProof.Rows L2
abbrev Ms := List (Addr × List Int)
/-- the set at a holds m, laid as T says -/
structure TSet (P : Program) (w : World) (h : Heap) (a : Addr) (m : Ms) (xs : Array (Int × Value)) (e : Nat) (T : SetTable) : Prop where
  o : ∃ ob, h.get? a = some ob ∧ ob.ExactSet ∧ ob.data = .set xs e T
  r : xs.toList = rowsOf P w m
  k : TabOk T (m.map fun z => thash P w z.2)
  n : (m.map (·.2)).Nodup
  u : ∀ z ∈ m, IsT P w h z.2 z.1
  p : T.plain = true
  l : w.params.followText "set-order" = true ∨ T.led = true
  b : m.length * 5 < T.mask * 3
section
variable {P : Program} {w : World} {A : Around} {E : Value → Shared → Prop} {s : Shared} {a : Addr} {m : Ms} {xs : Array (Int × Value)} {e : Nat} {T : SetTable}
theorem rows_len {xs : Array (Int × Value)} {m : Ms} (r : xs.toList = rowsOf P w m) : xs.size = m.length := by
  rw [← Array.length_toList, r, rowsOf, List.length_map]
theorem TSet.sz (S : TSet P w s.heap a m xs e T) : xs.size = m.length := rows_len S.r
theorem fit_of (h : T.place.size = xs.size) (d : T.dummies = #[]) (l : xs.size ≤ T.mask) : T.fits xs.size = true := by
  rw [SetTable.fits, SetTable.fill, d, Bool.and_eq_true, beq_iff_eq, decide_eq_true_eq, h]
  exact ⟨rfl, by show xs.size + 0 ≤ _; omega⟩
theorem TSet.fit (S : TSet P w s.heap a m xs e T) : T.fits xs.size = true := by
  have h3 := S.b
  have h4 := S.sz
  exact fit_of (by rw [S.k.sz, List.length_map, S.sz]) S.k.dm (by omega)
theorem TSet.at (S : TSet P w s.heap a m xs e T) {i : Nat} {z : Addr × List Int} (h : m[i]? = some z) : xs[i]? = some (thash P w z.2, Value.ref z.1) := by
  rw [← Array.getElem?_toList, S.r, rowsOf, List.getElem?_map, h]
  rfl
theorem TSet.give (S : TSet P w s.heap a m xs e T) : ¬ T.gaveWay = true := by
  rw [SetTable.gaveWay, mask_odd S.k.mok]
  decide
theorem nth_dum (q : Nat) : ∀ (n : Nat) (p : SetTable.Probe), p.dummy = none → (nth q p n).dummy = none
  | 0, _, h => h
  | n + 1, p, h => nth_dum q n (adv q p) (by unfold adv; split <;> exact h)
/-- the c-th step of the way of k -/
abbrev stepP (P : Program) (w : World) (T : SetTable) (k : List Int) (c : Nat) : SetTable.Probe := nth T.mask (runAt T.mask (SetTable.bits (thash P w k) % (T.mask + 1)) (SetTable.bits (thash P w k))) c
abbrev hAt (xs : Array (Int × Value)) : Nat → Int := fun i => (xs[i]?.map (·.1)).getD 0
theorem TSet.go (S : TSet P w s.heap a m xs e T) {b : Addr} {k : List Int} (hb : IsT P w s.heap k b) (hu : A.units < cLine) {N : Nat} (n1 : N < 10 * SetTable.turns T.mask)
    (n2 : (stepP P w T k N).j ∉ T.place.toList) (n3 : ∀ j, j < N → (stepP P w T k j).j ∈ T.place.toList) {Q : SetFound → Shared → Prop} (yes : k ∈ m.map (·.2) → Q (.there none) s) (no : k ∉ m.map (·.2) → Q (.free (stepP P w T k N).j false) s) :
    ∀ (f c : Nat) (st : Option SetTable.Probe), st.getD (T.probeStart (thash P w k)) = stepP P w T k c → c ≤ N → N < f + c → (∀ (i : Nat) z, m[i]? = some z → z.2 = k → ∃ c', c ≤ c' ∧ c' < N ∧ T.place.toList[i]? = some (stepP P w T k c').j) →
      wpAny (model P w) A (setSearchFrom a (.ref b) (thash P w k) true f st) Q E s := by
  obtain ⟨ob, ho, _, hd⟩ := S.o
  intro f
  induction f with
  | zero => intro c st _ h2 h3; omega
  | succ f ih =>
    intro c st h1 h2 h3 h4
    have sh : ∀ q, nth T.mask (stepP P w T k c) q = stepP P w T k (c + q) := fun q => (nth_add T.mask c _ q).symm
    have sj : ∀ q, (nth T.mask (stepP P w T k c) q).j = (stepP P w T k (c + q)).j := fun q => by rw [sh]
    have eh : ∀ (i : Nat) z, m[i]? = some z → hAt xs i = thash P w z.2 := fun i z hz => by
      show (xs[i]?.map (·.1)).getD 0 = _
      rw [S.at hz]
      rfl
    rw [setSearchFrom_succ]
    refine wpAny_bind (wpAny_setState_of ho hd S.fit ?_)
    dsimp only
    refine wp_if_neg S.give ?_
    rw [h1]
    rcases go_spec T S.k.ris S.k.dm (hAt xs) (thash P w k) (10 * SetTable.turns T.mask) (N - c) (stepP P w T k c) (nth_dum _ _ _ rfl) (by omega) (fun q hq => by rw [sj]; exact n3 _ (by omega)) (by rw [sj, Nat.add_sub_cancel' h2]; exact n2) with ⟨q, i, q1, q2, q3, q4, q5⟩ | ⟨q1, q2⟩
    · have q5' : T.probe (fun i => (xs[i]?.map (·.1)).getD 0) (thash P w k) (stepP P w T k c) = some (.candidate (stepP P w T k (c + q)).j i (stepP P w T k (c + (q + 1)))) := by
        rw [← sj, ← sh]
        exact q5
      rw [q5']
      dsimp only
      rw [sj] at q2
      have hi : i < m.length := by
        have z1 := (List.getElem?_eq_some_iff.mp q2).1
        rw [Array.length_toList, S.k.sz, List.length_map] at z1
        exact z1
      obtain ⟨z, hz⟩ : ∃ z, m[i]? = some z := ⟨_, List.getElem?_eq_getElem hi⟩
      have hzm := List.mem_of_getElem? hz
      have live : T.slot (stepP P w T k (c + q)).j = .live i := slot_live S.k.ris q2
      have back : wpAny (model P w) A (searchRest a (.ref b) (thash P w k) true f xs T (stepP P w T k (c + q)).j i (stepP P w T k (c + (q + 1)))) Q E s := by
        unfold searchRest
        rw [S.at hz]
        dsimp only
        refine wpAny_bind (wpAny_holding (wpAny_eqBool_tuple hu (S.u z hzm) hb (wpAny_bind (wpAny_setState_of ho hd S.fit ?_))))
        dsimp only
        by_cases ez : z.2 = k
        · exact wp_if_pos (by simp [ez]) (wpAny_pure (yes (List.mem_map.mpr ⟨z, hzm, ez⟩)))
        · refine wp_if_neg (by simp [ez]) ?_
          rw [sameMem]
          dsimp only
          simp only [if_true, live, S.at hz]
          refine wpAny_bind (wpAny_isSame_ref_self (wpAny_bind (wpAny_pure ?_)))
          simp only [if_true]
          refine wp_if_neg (by simp [ez]) ?_
          refine ih (c + (q + 1)) _ rfl (by omega) (by omega) fun i' z' hz' ez' => ?_
          obtain ⟨c', c1, c2, c3⟩ := h4 i' z' hz' ez'
          refine ⟨c', ?_, c2, c3⟩
          by_cases lt : c' < c + q
          · exfalso
            refine q4 (c' - c) i' (by omega) (by rw [sj, Nat.add_sub_cancel' c1]; exact c3) ?_
            rw [eh i' z' hz', ez']
          · by_cases eq : c' = c + q
            · exfalso
              rw [eq] at c3
              have live' := slot_live S.k.ris c3
              rw [live] at live'
              injection live' with ei
              rw [← ei, hz] at hz'
              exact ez ((congrArg Prod.snd (Option.some.inj hz')).trans ez')
            · omega
      by_cases led : T.led = true
      · exact wp_if_neg (by simp [led]) back
      · refine wp_if_pos (by simp [led]) ?_
        refine wpAny_bind (seen_tup hb (fun y hy => ?_) (wp_if_neg (by decide) back))
        obtain ⟨g, hg, rfl⟩ := List.mem_map.mp hy
        have hg2 : g ∈ xs.toList := by
          have : g ∈ xs ∧ g.1 = thash P w k := by simpa using hg
          simpa using this.1
        rw [S.r] at hg2
        obtain ⟨z2, hz2, rfl⟩ := List.mem_map.mp hg2
        exact ⟨z2.2, z2.1, rfl, S.u z2 hz2⟩
    · have q2' : T.probe (fun i => (xs[i]?.map (·.1)).getD 0) (thash P w k) (stepP P w T k c) = some (.empty (stepP P w T k N).j none) := by
        have : stepP P w T k N = nth T.mask (stepP P w T k c) (N - c) := by rw [sh, Nat.add_sub_cancel' h2]
        rw [this]
        exact q2
      rw [q2']
      dsimp only
      refine wpAny_pure (no fun hm => ?_)
      obtain ⟨z, hz, ez⟩ := List.mem_map.mp hm
      obtain ⟨i, hi, rfl⟩ := List.getElem_of_mem hz
      have hgi := List.getElem?_eq_getElem hi
      obtain ⟨c', c1, c2, c3⟩ := h4 i _ hgi ez
      refine q1 (c' - c) i (by omega) (by rw [sj, Nat.add_sub_cancel' c1]; exact c3) ?_
      rw [eh i _ hgi, ez]
theorem TSet.find (S : TSet P w s.heap a m xs e T) {b : Addr} {k : List Int} (hb : IsT P w s.heap k b) (hu : A.units < cLine) {Q : SetFound → Shared → Prop} (yes : k ∈ m.map (·.2) → Q (.there none) s)
    (no : ∀ N, k ∉ m.map (·.2) → way T.mask (thash P w k) N ∉ T.place.toList → (∀ j, j < N → way T.mask (thash P w k) j ∈ T.place.toList) → Q (.free (way T.mask (thash P w k) N) false) s) : wpAny (model P w) A (setSearch a (.ref b) (thash P w k) true) Q E s := by
  have hr := S.b
  obtain ⟨N, n1, n2, n3⟩ := S.k.first (by rw [List.length_map]; omega) (thash P w k)
  have big : 10 * SetTable.turns T.mask ≤ 100000 := by
    unfold SetTable.turns
    rcases S.k.mok with h | h | h <;> omega
  unfold setSearch
  refine S.go hb hu n1 n2 n3 yes (fun z => no N z n2 n3) 100000 0 none rfl (Nat.zero_le _) (by omega) fun i z hz hk => ?_
  have hi : (m.map fun z => thash P w z.2)[i]? = some (thash P w k) := by
    rw [List.getElem?_map, hz, ← hk]
    rfl
  have lt : i < T.place.toList.length := by
    have := (List.getElem?_eq_some_iff.mp hi).1
    rw [Array.length_toList, S.k.sz]
    exact this
  obtain ⟨c, c1, c2⟩ := S.k.before n2 hi (List.getElem?_eq_getElem lt)
  exact ⟨c, Nat.zero_le _, c1, by rw [List.getElem?_eq_getElem lt, ← c2]⟩
/-- the table laid anew, larger -/
theorem relay76 {ob : Obj} (ho : s.heap.get? a = some ob) (hx : ob.ExactSet) (hd : ob.data = .set xs e T) (r : xs.toList = rowsOf P w m) (z1 : T.place.size = xs.size) (z2 : T.dummies = #[]) (z3 : xs.size ≤ T.mask) (n : (m.map (·.2)).Nodup)
    (u : ∀ z ∈ m, IsT P w s.heap z.2 z.1) (p : T.plain = true) (l : w.params.followText "set-order" = true ∨ T.led = true) {want M : Nat} (hw : SetTable.sizeAbove want = M + 1) (hM : MaskOk M) (hb : m.length * 5 < M * 3) {Q : Unit → Shared → Prop}
    (q : ∀ h' m' xs' e' T', Heap.SameBut a s.heap h' → TSet P w h' a m' xs' e' T' → m'.Perm m → Q () { s with heap := h' }) : wpAny (model P w) A (setRelay a want) Q E s := by
  have hl := rows_len r
  obtain ⟨T', ord, e1, e2, e3, e4, e5, e6, e7⟩ := relaid_ok T (hs := xs.map (·.1)) (wanted := want) (M := M) (by omega) hM (by rw [Array.size_map, hl]; omega)
  rw [Array.size_map, hl] at e2
  obtain ⟨m', g1, g2, g3⟩ := order_rows m xs ord r e2
  rw [← g3] at e3
  have hs : (ord.filterMap (xs[·]?)).size = xs.size := by rw [rows_len g1, g2.length_eq, hl]
  have hM2 : M ≤ 127 := by rcases hM with h | h | h <;> omega
  rw [setRelay_eq]
  refine wpAny_bind (wpAny_setState_of ho hd (fit_of z1 z2 z3) ?_)
  dsimp only
  refine wp_if_neg (by rw [sizeLine_eq]; omega) ?_
  rw [e1]
  dsimp only
  refine wpAny_bind (wp_if_neg (by rw [hs]; simp) (wpAny_pure ?_))
  dsimp only
  refine wpAny_storeSet_of ho hd ?_ (by rw [hs, hl, sizeLine_eq]; omega)
  have sb : Heap.SameBut a s.heap (s.heap.update a (Obj.putSet (ord.filterMap (xs[·]?)) T')) := Heap.SameBut.update ..
  exact q _ m' _ (e + 1) T' sb ⟨⟨_, store_at ho hd, ⟨hx.1, hx.2.1, hx.2.2⟩, rfl⟩, g1, e3, (g2.map (·.2)).nodup_iff.mpr n, fun z hz => isT_same (u z (g2.mem_iff.mp hz)) ho hd sb, by rw [e6]; exact p, by rw [e5]; exact l, by rw [g2.length_eq, e4]; exact hb⟩ g2
/-- one put in -/
theorem TSet.add (S : TSet P w s.heap a m xs e T) {b : Addr} {k : List Int} (hb : IsT P w s.heap k b) (hu : A.units < cLine) (few : k ∉ m.map (·.2) → m.length < 76) {Q : Bool → Shared → Prop}
    (q : ∀ c h' m' xs' e' T', Heap.SameBut a s.heap h' → TSet P w h' a m' xs' e' T' → (k ∈ m.map (·.2) ∧ m' = m ∨ k ∉ m.map (·.2) ∧ m'.Perm ((b, k) :: m)) → Q c { s with heap := h' }) : wpAny (model P w) A (setAddHashed a (.ref b) (thash P w k)) Q E s := by
  obtain ⟨ob, ho, hx, hd⟩ := S.o
  have hl := S.sz
  have hroom := S.b
  unfold setAddHashed
  refine wpAny_holding ?_
  show wpAny _ _ (setAddHashedIn a (.ref b) (thash P w k) (99999 + 1)) _ _ _
  rw [setAddHashedIn_succ]
  refine wpAny_bind (wpAny_setState_of ho hd S.fit ?_)
  dsimp only
  refine wp_if_neg (by simp [byScan, Value.scannable]) ?_
  refine wpAny_bind (S.find hb hu (fun hm => wpAny_pure (q false s.heap m xs e T (Heap.SameBut.refl a s.heap) S (.inl ⟨hm, rfl⟩))) fun N hm n2 n3 => ?_)
  dsimp only
  refine wpAny_bind (wpAny_setState_of ho hd S.fit ?_)
  dsimp only
  have few := few hm
  obtain ⟨q1, q2, q3, q4, q5, q6, _, _, q9⟩ := S.k.put n2 n3
  have hp : (T.put (way T.mask (thash P w k) N)).1.plain = true := q6.trans S.p
  generalize T.put (way T.mask (thash P w k) N) = pt at q1 q3 q4 q5 q6 q9 hp ⊢
  obtain ⟨T1, j⟩ := pt
  dsimp only at q1 q3 q4 q5 q6 q9 hp ⊢
  subst q1
  first
    | (refine wpAny_bind (wp_if_pos hp (hashBy_tup hb ?_)))
    | refine wp_if_pos hp (wpAny_bind (hashBy_tup hb ?_))
  simp only [if_true]
  have rr : (SetTable.insertAt xs (SetTable.below T.place (way T.mask (thash P w k) N)) (thash P w k, Value.ref b)).toList = rowsOf P w (m.take (SetTable.below T.place (way T.mask (thash P w k) N)) ++ (b, k) :: m.drop (SetTable.below T.place (way T.mask (thash P w k) N))) := by
    rw [SetTable.toList_insertAt, rows_put, S.r]
  generalize SetTable.below T.place (way T.mask (thash P w k) N) = j at q2 q3 rr ⊢
  have pm := put_perm m j (b, k)
  have eh : (m.take j ++ (b, k) :: m.drop j).map (fun z => thash P w z.2) = (m.map fun z => thash P w z.2).take j ++ thash P w k :: (m.map fun z => thash P w z.2).drop j := by
    rw [List.map_append, List.map_cons, List.map_take, List.map_drop]
  rw [← eh] at q3
  generalize SetTable.insertAt xs j (thash P w k, Value.ref b) = x1 at rr ⊢
  generalize m.take j ++ (b, k) :: m.drop j = m1 at pm q3 rr
  have l1 : m1.length = m.length + 1 := pm.length_eq
  have lx : x1.size = m.length + 1 := (rows_len rr).trans l1
  have nd1 : (m1.map (·.2)).Nodup := (pm.map (·.2)).nodup_iff.mpr (by
    rw [List.map_cons]
    exact List.nodup_cons.mpr ⟨hm, S.n⟩)
  refine wpAny_bind (wpAny_storeSet_of ho hd ?_ (by rw [lx, sizeLine_eq]; omega))
  have sb : Heap.SameBut a s.heap (s.heap.update a (Obj.putSet x1 T1)) := Heap.SameBut.update ..
  have h1 := store_at (es' := x1) (t' := T1) ho hd
  generalize s.heap.update a (Obj.putSet x1 T1) = hp1 at sb h1 ⊢
  have u1 : ∀ z ∈ m1, IsT P w hp1 z.2 z.1 := fun z hz => by
    rcases List.mem_cons.mp (pm.mem_iff.mp hz) with eq | hz
    · rw [eq]
      exact isT_same hb ho hd sb
    · exact isT_same (S.u z hz) ho hd sb
  have led1 : w.params.followText "set-order" = true ∨ T1.led = true := by rw [q5]; exact S.l
  rw [List.length_map] at q9
  by_cases full : T1.tooFull = true
  · have fl : T1.mask * 3 ≤ (m.length + 1) * 5 := by
      have h := full
      rw [SetTable.tooFull, decide_eq_true_eq, q9] at h
      exact h
    have zs : T1.place.size = x1.size := by rw [q3.sz, List.length_map, l1, lx]
    have two : (T.mask = 7 ∧ m.length = 4) ∨ (T.mask = 31 ∧ m.length = 18) := by
      rw [q4] at fl
      rcases S.k.mok with h | h | h <;> rw [h] at fl hroom
      · exact .inl ⟨h, by omega⟩
      · exact .inr ⟨h, by omega⟩
      · omega
    have go : ∀ M, SetTable.sizeAbove (SetTable.grown (m.length + 1)) = M + 1 → MaskOk M → (m.length + 1) * 5 < M * 3 → wpAny (model P w) A (setRelay a (SetTable.grown (m.length + 1))) (fun _ s' => wpAny (model P w) A (pure true) Q E s') E { s with heap := hp1 } := fun M k1 k2 k3 =>
      relay76 (s := { s with heap := hp1 }) h1 ⟨hx.1, hx.2.1, hx.2.2⟩ rfl rr zs q3.dm (by rw [lx, q4]; rcases two with ⟨t1, t2⟩ | ⟨t1, t2⟩ <;> omega) nd1 u1 hp led1 k1 k2 (by rw [l1]; exact k3) fun h2 m2 x2 e2 T2 sb2 S2 pm2 => wpAny_pure (q true h2 m2 x2 e2 T2 (sb.trans sb2) S2 (.inr ⟨hm, pm2.trans pm⟩))
    rw [hl]
    first
      | refine wpAny_bind (wp_if_pos (by simp [full]) ?_)
      | refine wp_if_pos (by simp [full]) (wpAny_bind ?_)
    rcases two with ⟨_, t2⟩ | ⟨_, t2⟩
    · exact go 31 (by rw [t2, size_20]) (.inr (.inl rfl)) (by omega)
    · exact go 127 (by rw [t2, size_76]) (.inr (.inr rfl)) (by omega)
  · have fl : (m.length + 1) * 5 < T1.mask * 3 := by
      have h := full
      rw [SetTable.tooFull, decide_eq_true_eq, q9] at h
      omega
    have fin := q true hp1 m1 x1 (e + 1) T1 sb ⟨⟨_, h1, ⟨hx.1, hx.2.1, hx.2.2⟩, rfl⟩, rr, q3, nd1, u1, hp, led1, by rw [l1]; exact fl⟩ (.inr ⟨hm, pm⟩)
    first
      | exact wp_if_neg (by simp [full]) (wpAny_pure fin)
      | exact wpAny_bind (wp_if_neg (by simp [full]) (wpAny_pure (wpAny_pure fin)))
end
end A8
set_option Elab.async false
set_option linter.all false
set_option maxRecDepth 100000
set_option maxHeartbeats 4000000
/-! set(t) of a tuple of tuples of ints; sorted of that -/
namespace A8
open PySem PySem.Spec PyProof.Rows L2
open PySem.W (EachIs AllAlike Sortable dataLe)
theorem TSet.keep {P : Program} {w : World} {h h' : Heap} {a : Addr} {m : Ms} {xs : Array (Int × Value)} {e : Nat} {T : SetTable} (S : TSet P w h a m xs e T) (ka : ∀ o, h.get? a = some o → h'.get? a = some o) (ku : ∀ z ∈ m, IsT P w h' z.2 z.1) : TSet P w h' a m xs e T := by
  obtain ⟨ob, ho, hx⟩ := S.o
  exact ⟨⟨ob, ka ob ho, hx⟩, S.r, S.k, S.n, ku, S.p, S.l, S.b⟩
theorem tset_new {P : Program} {w : World} {h : Heap} {a : Addr} (ho : h.get? a = some (newSet w)) : ∃ xs e T, TSet P w h a [] xs e T := by
  have R := setTR_fresh (P := P) ho
  exact ⟨_, _, _, R.ob, R.rows, R.tab, R.nd, R.tup, R.plain, R.led, R.room⟩
section
variable {P : Program} {w : World} {A : Around} {E : Value → Shared → Prop} {s : Shared}
theorem loop76 (ks : Ms) {items : Array Value} (hit : items.toList = ks.map fun z => Value.ref z.1) (hk : ∀ z ∈ ks, IsT P w s.heap z.2 z.1) (few : ∀ m : Ms, (m.map (·.2)).Nodup → (∀ z ∈ m, z ∈ ks) → m.length ≤ 76) (hu : A.units + 8 < cLine) :
    SetLoop P w A s items (fun h' => ∃ m xs e T, TSet P w h' s.heap.objs.size m xs e T ∧ Got ks ks.length m) := by
  intro A' I fp St s1 R hh hu' W hS hI st0 k0 hset hR
  have hn : items.size = ks.length := by
    have q := congrArg List.length hit
    rwa [Array.length_toList, List.length_map] at q
  have neI : ∀ {b o}, s.heap.get? b = some o → b ∉ [I] := fun {b o} eo z => Nat.ne_of_lt (Nat.lt_trans (Heap.lt_size eo) hI) (List.mem_singleton.mp z)
  have neS : ∀ {b o}, s.heap.get? b = some o → b ≠ s.heap.objs.size := fun {b o} eo => Nat.ne_of_lt (Heap.lt_size eo)
  have SI : s.heap.objs.size ∉ [I] := fun z => Nat.ne_of_lt hI (List.mem_singleton.mp z)
  have wide : ∀ b ∈ [I], b ∈ [s.heap.objs.size, I] := fun b hb => List.mem_cons_of_mem _ hb
  have key : ∀ (d i : Nat) (s2 : Shared), i + d = items.size → St i s2 → (∀ b o, s.heap.get? b = some o → s2.heap.get? b = some o) → (∃ m xs e T, TSet P w s2.heap s.heap.objs.size m xs e T ∧ Got ks i m) → Moved [s.heap.objs.size, I] (fun a b => b = a) s1 s2 →
      codeAny (model P w) A' (.builtin "set.update.loop" ⟨[.ref s.heap.objs.size, .ref I], []⟩) R s2 := by
    intro d
    induction d with
    | zero =>
      intro i s2 hd st kp ⟨m, xs, e, T, S, g⟩ mv
      obtain rfl : i = items.size := by omega
      refine codeAny_builtin F.entry_set_update_loop (by
        rw [Around.under_plainId F.plain_set_update_loop _]
        refine wpAny_bind (W.done s2 _ _ st fun s3 hm => wpAny_pure (hR s3 (mv.trans W.gtrans (hm.mono wide)) ⟨m, xs, e, T, S.keep (fun o eo => hm.heap _ o SI eo) fun z hz => isT_keep (hk z (List.mem_of_mem_take (g.sub z hz))) fun b o eo => hm.heap b o (neI eo) (kp b o eo), hn ▸ g⟩)))
    | succ d ih =>
      intro i s2 hd st kp ⟨m, xs, e, T, S, g⟩ mv
      refine codeAny_builtin F.entry_set_update_loop (by
        rw [Around.under_plainId F.plain_set_update_loop _]
        refine wpAny_bind (W.item i s2 _ _ (by omega) st fun v s3 hv st3 hm => ?_)
        obtain ⟨z, hz, rfl⟩ : ∃ z, ks[i]? = some z ∧ v = .ref z.1 := by
          have q : items.toList[i]? = some v := by rw [Array.getElem?_toList]; exact hv
          rw [hit, List.getElem?_map] at q
          obtain ⟨z, q1, q2⟩ := Option.map_eq_some_iff.mp q
          exact ⟨z, q1, q2.symm⟩
        have kp3 : ∀ b o, s.heap.get? b = some o → s3.heap.get? b = some o := fun b o eo => hm.heap b o (neI eo) (kp b o eo)
        have sub : ∀ y ∈ m, y ∈ ks := fun y hy => List.mem_of_mem_take (g.sub y hy)
        have S3 := S.keep (fun o eo => hm.heap _ o SI eo) fun y hy => isT_keep (hk y (sub y hy)) kp3
        have hzm := List.mem_of_getElem? hz
        have hb := isT_keep (hk z hzm) kp3
        show wpAny _ A'.in1 (holding [Value.ref z.1] (setAdd s.heap.objs.size (.ref z.1)) >>= _) _ _ s3
        refine wpAny_bind (wpAny_holding (by
          unfold setAdd
          refine wpAny_holding (wpAny_bind (wpAny_pyHash_tuple (by simp [Around.in1]; omega) hb ?_))
          refine TSet.add (s := { s3 with toks := s3.toks + (z.2.length + 1) }) S3 hb (by simp [Around.in1]; omega) (fun hz' => ?_) fun c h' m' xs' e' T' sb S' alt => ?_
          · have h76 := few (z :: m) (by rw [List.map_cons]; exact List.nodup_cons.mpr ⟨hz', S.n⟩) fun y hy => by
              rcases List.mem_cons.mp hy with q | q
              · rw [q]; exact hzm
              · exact sub y q
            rw [List.length_cons] at h76
            omega
          have g' : Got ks (i + 1) m' := by
            rcases alt with ⟨q1, rfl⟩ | ⟨_, q2⟩
            · exact g.same hz q1
            · exact g.more hz q2
          refine wpAny_pure ⟨plainId_quiet F.plain_set_update_loop _, ih (i + 1) _ (by omega) (W.frame _ s3 _ _ st3 (Nat.le_add_right _ _) fun b hb o eo => ?_) (fun b o eo => ?_) ⟨m', xs', e', T', S', g'⟩ ((mv.trans W.gtrans (hm.mono wide)).then_heap (Nat.le_add_right _ _) fun b o hb eo => ?_)⟩
          · rw [sb.2 b (fun q => hS (q ▸ hb))]; exact eo
          · rw [sb.2 b (neS eo)]; exact kp3 b o eo
          · rw [sb.2 b (fun q => hb (q ▸ List.mem_cons_self))]; exact eo)))
  obtain ⟨xs, e, T, S0⟩ := tset_new (P := P) hset
  exact key items.size 0 s1 (by omega) st0 k0 ⟨[], xs, e, T, S0, Got.zero ks⟩ (Moved.refl W.grefl)
/-! ### sorted(s) -/
def encM (z : Addr × List Int) : PyData := .tuple (z.2.map .int)
theorem reads_its {h : Heap} {k : List Int} {us : List Value} (q : ItemsAre (intKind P w) k us) : ReadsAll h us (k.map .int) [] := by
  induction q with
  | nil => exact .nil
  | cons q1 _ ih =>
    obtain ⟨t, rfl⟩ := Value.isInt_shape q1
    exact .cons (as := []) (.int _ t) ih
theorem reads_T {h : Heap} {k : List Int} {b : Addr} (q : IsT P w h k b) : Reads h (.ref b) (.tuple (k.map .int)) [] := by
  obtain ⟨o, its, n, h1, h2, h3, h4⟩ := q
  exact .tuple h1 h2 h3 (reads_its h4)
theorem each_refs {h : Heap} : ∀ {m : Ms}, (∀ z ∈ m, IsT P w h z.2 z.1) → EachIs (fun v z => v = Value.ref z.1 ∧ ∃ as, Reads h v (encM z) as ∧ as = []) (m.map fun z => Value.ref z.1) m
  | [], _ => .nil
  | z :: m, q => .cons ⟨rfl, [], reads_T (q z List.mem_cons_self), rfl⟩ (each_refs fun y hy => q y (List.mem_cons_of_mem _ hy))
theorem refs_each : ∀ {out : List Value} {m : Ms}, EachIs (fun v z => v = Value.ref z.1) out m → out = m.map fun z => Value.ref z.1
  | _, _, .nil => rfl
  | _, _, .cons q t => by rw [List.map_cons, ← refs_each t, q]
theorem alike_encM (z y : Addr × List Int) : PySem.W.alike (encM z) (encM y) = true := by
  rw [encM, encM, PySem.W.alike]
  exact PySem.W.alike_ints _ _
theorem depth_encM (z : Addr × List Int) : (encM z).depth = 1 := by
  rw [encM, PyData.depth, PySem.W.depth_ints]
/-- the values are those of a list of members -/
theorem refs_of {m : Ms} : ∀ {us : List Value}, (∀ v ∈ us, v ∈ m.map fun z => Value.ref z.1) → ∃ m1 : Ms, us = m1.map (fun z => Value.ref z.1) ∧ ∀ z ∈ m1, z ∈ m
  | [], _ => ⟨[], rfl, fun z hz => nomatch hz⟩
  | v :: us, q => by
    obtain ⟨z, hz, ev⟩ := List.mem_map.mp (q v List.mem_cons_self)
    obtain ⟨m1, e1, s1⟩ := refs_of fun u hu => q u (List.mem_cons_of_mem _ hu)
    refine ⟨z :: m1, by rw [List.map_cons, ev, e1], fun y hy => ?_⟩
    rcases List.mem_cons.mp hy with rfl | hy
    · exact hz
    · exact s1 y hy
variable {a : Addr} {m : Ms} {xs : Array (Int × Value)} {e : Nat} {T : SetTable}
theorem sorted76 (S : TSet P w s.heap a m xs e T) (hh : A.handled = none) (hne : ∀ z ∈ m, z.2 ≠ []) (hu : A.units + 20 < cLine) {Q : Value → Shared → Prop}
    (q : ∀ s' p (m1 : Ms) (c : Nat), (∀ b o, s.heap.get? b = some o → s'.heap.get? b = some o) → s'.gens = s.gens → s'.os = s.os → s.heap.objs.size ≤ p → s'.heap.get? p = some (seqObj "list" ((m1.mergeSort (dataLe false encM)).map fun z => Value.ref z.1).toArray c) →
      (m1.map fun z => Value.ref z.1).Perm (m.map fun z => Value.ref z.1) → (∀ z ∈ m1, z ∈ m) → Q (.ref p) s') : wpAny (model P w) A (call (.builtin "sorted") [.ref a]) Q E s := by
  obtain ⟨ob, ho, hx, hd⟩ := S.o
  have hb := S.b
  have hl : m.length ≤ 76 := by rcases S.k.mok with h | h | h <;> omega
  have sz := S.sz
  refine Calls.call_function_entry kind_sorted plain_sorted entry_sorted (args_sorted1 _) (by
    unfold Builtin.«sorted»
    refine wpAny_bind (m := checkCount "sorted" 1 1 _) (wpAny_pure (wpAny_bind (collect_set (A := A.in1) hh ⟨ob, ho, hx.1, hd⟩ S.fit (by unfold scanBound; omega) S.k.ris S.l fun s1 us k1 z1 g1 o1 pm => ?_)))
    have ex : xs.toList.map (·.2) = m.map fun z => Value.ref z.1 := by
      rw [S.r, rowsOf, List.map_map]
      rfl
    rw [ex] at pm
    obtain ⟨m1, rfl, sub⟩ := refs_of fun v hv => pm.mem_iff.mp hv
    have l1 : m1.length = m.length := by
      have := pm.length_eq
      rwa [List.length_map, List.length_map] at this
    refine wpAny_bind (wpAny_newList ?_ (by rw [List.length_map, sizeLine_eq]; omega))
    have hL : (s1.heap.push (seqObj "list" (m1.map fun z => Value.ref z.1).toArray 0)).get? s1.heap.objs.size = some (seqObj "list" (m1.map fun z => Value.ref z.1).toArray 0) := Heap.get?_push_size _ rfl
    have rd : EachIs (fun v z => v = Value.ref z.1 ∧ ∃ as, Reads (s1.heap.push (seqObj "list" (m1.map fun z => Value.ref z.1).toArray 0)) v (encM z) as ∧ as = []) (m1.map fun z => Value.ref z.1) m1 :=
      each_refs (P := P) (w := w) fun z hz => isT_keep (S.u z (sub z hz)) fun b o eo => Heap.get?_push_of_some _ (k1 b o eo)
    refine wpAny_bind (wpAny_holding (PySem.W.list_sort_data (s := { s1 with heap := s1.heap.push (seqObj "list" (m1.map fun z => Value.ref z.1).toArray 0) }) (R := fun v z => v = Value.ref z.1) (enc := encM) (bs := m1) hL (rd.mono fun _ _ y => y.1) (rd.mono fun _ _ y => ?_) ?_ (.inl ?_) (by rw [sizeLine_eq]; omega) (fun z _ => ?_) fun out lo eo => ?_))
    · obtain ⟨_, as, r, rfl⟩ := y
      exact ⟨[], r, by simp⟩
    · intro d hd d' hd'
      obtain ⟨z, _, rfl⟩ := List.mem_map.mp hd
      obtain ⟨y, _, rfl⟩ := List.mem_map.mp hd'
      exact alike_encM z y
    · intro d hd
      obtain ⟨z, hz, rfl⟩ := List.mem_map.mp hd
      have := hne z (sub z hz)
      unfold encM
      cases q2 : z.2 with
      | nil => exact absurd q2 this
      | cons x r => exact ⟨_, _, rfl⟩
    · rw [depth_encM]
      simp [Around.in1]
      omega
    · obtain ⟨c, hc⟩ := sortedHeap_at (vs := m1.map fun z => Value.ref z.1) (out := out.toArray) hL
      rw [refs_each eo] at hc ⊢
      refine wpAny_pure ⟨_, rfl, q _ s1.heap.objs.size m1 c (fun b o eo => ?_) g1 o1 z1 hc pm sub⟩
      have k2 := k1 b o eo
      have lt := Heap.lt_size k2
      show (sortedHeap (s1.heap.push _) s1.heap.objs.size _ _).get? b = some o
      rw [sortedHeap_old (Nat.ne_of_lt lt) (by rw [size_push']; exact Nat.lt_succ_of_lt lt)]
      exact Heap.get?_push_of_some _ k2)
end
end A8
set_option Elab.async false
set_option linter.all false
set_option maxRecDepth 100000
set_option maxHeartbeats 4000000
/-! sorted(set(t)), t a tuple of couples -/
namespace A8
open PySem PySem.Spec PyProof.Rows L2
open PySem.W (dataLe)
theorem perm_refs {P : Program} {w : World} {h : Heap} {m m1 : Ms} (hn : (m.map (·.2)).Nodup) (hu : ∀ z ∈ m, L2.IsT P w h z.2 z.1) (pm : (m1.map fun z => Value.ref z.1).Perm (m.map fun z => Value.ref z.1)) (sub : ∀ z ∈ m1, z ∈ m) : m1.Perm m := by
  have inj : ∀ z ∈ m, ∀ y ∈ m, z.1 = y.1 → z = y := fun z hz y hy e => by
    have h1 := hu z hz
    rw [e] at h1
    exact Prod.ext e (h1.inj (hu y hy))
  have nm : m.Nodup := nodup_of_map hn
  have nr : (m.map fun z => Value.ref z.1).Nodup := List.pairwise_map.mpr (nm.imp_of_mem fun {z y} hz hy ne e => ne (inj z hz y hy (Value.ref.inj e)))
  have n1 : m1.Nodup := nodup_of_map (pm.nodup_iff.mpr nr)
  refine (List.perm_ext_iff_of_nodup n1 nm).mpr fun z => ⟨sub z, fun hz => ?_⟩
  obtain ⟨y, hy, e⟩ := List.mem_map.mp (pm.mem_iff.mpr (List.mem_map.mpr ⟨z, hz, rfl⟩))
  rw [← inj y (sub y hy) z hz (Value.ref.inj e)]
  exact hy
section
variable {X : Cx}
theorem sorted_inv {pins : List (Addr × Obj)} {σ : L2.St} {H : Hp} {s : Shared} {a : Addr} {m : Ms} {xs : Array (Int × Value)} {e : Nat} {T : SetTable} {Q : VK} (hc : X.calm = true) (hu : X.A.units + 100 < cLine) (I : Inv X pins σ H s) (S : TSet X.prog X.w s.heap a m xs e T) (hne : ∀ z ∈ m, z.2 ≠ []) (hl : m.length ≤ 1000)
    (q : ∀ (m1 : Ms) p, m1.Perm m → H p = none → Q (.ref p) (upd H p (.lst ((m1.mergeSort (dataLe false encM)).map fun z => V.ref z.1)))) : wpAny (model X.prog X.w) X.A (call (.builtin "sorted") [.ref a]) (EP X pins σ Q) X.xe s := by
  refine sorted76 S (I.ok.hd hc) hne (by omega) fun s' p m1 c k g1 o1 hp hget pm sub1 => ?_
  have pm1 := perm_refs S.n S.u pm sub1
  have l1 := pm1.length_eq
  have hn : H p = none := I.hok.fresh hp
  have J : Inv X pins σ (upd H p (.lst ((m1.mergeSort (dataLe false encM)).map fun z => V.ref z.1))) { s with heap := s'.heap, gens := s'.gens, drawn := s'.drawn, toks := s'.toks } :=
    I.call (ch := []) (Un.laid k hp hn) (I.hok.laid k hp ⟨by rw [List.length_map, List.length_mergeSort, sizeLine_eq]; omega, _, c, vals_of_refs _, hget⟩) (by rw [g1]; exact I.bare) (fun _ z => nomatch z)
  have es : s' = { s with heap := s'.heap, gens := s'.gens, drawn := s'.drawn, toks := s'.toks } := by
    cases s'
    cases s
    cases o1
    rfl
  rw [es]
  exact ⟨.ref p, _, J, rfl, q m1 p pm1 hn⟩
def tSortT (K : PySem.W.Frag) (ta : TE) : TE := fun σ H Q => ta σ H fun x H1 => ∃ (l : Addr) (ks : Ms), x = V.ref l ∧ SqT K H1 l (ks.map fun z => V.ref z.1) ∧ (∀ z ∈ ks, SqT K H1 z.1 (z.2.map V.int) ∧ z.2 ≠ []) ∧ (∀ m : Ms, (m.map (·.2)).Nodup → (∀ z ∈ m, z ∈ ks) → m.length ≤ 76) ∧
  ∀ (m : Ms) p, (m.map (·.2)).Nodup → (∀ z ∈ m, z ∈ ks) → (∀ z ∈ ks, z.2 ∈ m.map (·.2)) → H1 p = none → Q (.ref p) (upd H1 p (.lst ((m.mergeSort (dataLe false encM)).map fun z => V.ref z.1)))
theorem pe_sortT {a : Expr} {ta : TE} {p p2 q pos : Pos} (hc : X.calm = true) (hu : X.A.units + 100 < cLine) (hg : Gl X "sorted") (hm : X.mg "sorted" = none) (hg2 : Gl X "set") (hm2 : X.mg "set" = none) (ha : PE X a ta)
    (na : starEach [a] X.env = (false, eval a X.env) :: starEach [] X.env := by rfl) (nb : starEach [.Call (.Name "set" p2) [a] [] q] X.env = (false, eval (.Call (.Name "set" p2) [a] [] q) X.env) :: starEach [] X.env := by rfl) : PE X (.Call (.Name "sorted" p) [.Call (.Name "set" p2) [a] [] q] [] pos) (tSortT X.K ta) := by
  refine ⟨fun pins s σ H Q I h => Call_ (ld_blt I hg hm (show bootBuiltins "sorted" = some (.builtin "sorted") by decide +kernel) (PyProof.Rows.callWith_builtin1 (PyProof.Rows.args_cons ?_ rfl) nb rfl))⟩
  refine Call_ (ld_blt I hg2 hm2 PyProof.Rows.boot_set (PyProof.Rows.callWith_type1 (PyProof.Rows.args_cons (thn (ha.run pins s σ H _ I h) fun v s1 ⟨x, H1, I1, r1, q1⟩ => PyProof.Rows.args_nil ?_) na) na rfl))
  obtain ⟨l, ks, rfl, hl, hk, few, q1⟩ := q1
  cases r1
  obtain ⟨its, rv, pl, hz⟩ := I1.tuple hl
  have hkT : ∀ z ∈ ks, L2.IsT X.prog X.w s1.heap z.2 z.1 := fun z hz => I1.isT (hk z hz).1
  refine set_of (items := its.toArray) (I1.ok.hd hc) (.inr pl) (loop76 ks (by simpa using refs_of_vals rv) hkT few (by omega)) fun h' tk ⟨m, xs, e, T, S, g⟩ kp => ?_
  have I2 : Inv X pins σ H1 { s1 with heap := h', toks := tk } := I1.kept (t' := tk) kp
  have sub : ∀ z ∈ m, z ∈ ks := fun z hz => List.mem_of_mem_take (g.sub z hz)
  refine PyProof.Rows.args_nil (sorted_inv hc hu I2 S (fun z hz => (hk z (sub z hz)).2) (by have := few m S.n sub; omega) fun m1 p pm hn => q1 m1 p ((pm.map (·.2)).nodup_iff.mpr S.n) (fun z hz => sub z (pm.mem_iff.mp hz)) (fun z hz => ?_) hn)
  rw [(pm.map (·.2)).mem_iff]
  exact g.all z (by rw [List.take_length]; exact hz)
end
end A8
set_option Elab.async false
set_option linter.all false
set_option maxRecDepth 100000
set_option maxHeartbeats 4000000
namespace A8
open PySem PySem.Spec PyProof.Rows L2
def top (i : Nat) : Stmt := PySem.Challenge.pw_asifforever_k08_whole_merging_rows_and_b.main.body.getD i (.Pass ⟨0, 0, 0, 0⟩)
abbrev s_is_integer : Stmt := top 5
abbrev n_is_integer : List Str := ["thing"]
theorem c_is_integer : FnScope n_is_integer ["thing"] (defScope s_is_integer) := ⟨rfl, rfl, rfl, by decide +kernel, rfl, by decide +kernel, by decide +kernel⟩
abbrev s_is_within : Stmt := top 6
abbrev n_is_within : List Str := ["thing", "least", "most"]
theorem c_is_within : FnScope n_is_within ["thing", "least", "most"] (defScope s_is_within) := ⟨rfl, rfl, rfl, by decide +kernel, rfl, by decide +kernel, by decide +kernel⟩
abbrev s_are_numbers : Stmt := top 7
abbrev n_are_numbers : List Str := ["thing", "most_many", "most", "number"]
theorem c_are_numbers : FnScope n_are_numbers ["thing", "most_many", "most"] (defScope s_are_numbers) := ⟨rfl, rfl, rfl, by decide +kernel, rfl, by decide +kernel, by decide +kernel⟩
abbrev s_is_rising : Stmt := top 8
abbrev n_is_rising : List Str := ["things", "at"]
theorem c_is_rising : FnScope n_is_rising ["things"] (defScope s_is_rising) := ⟨rfl, rfl, rfl, by decide +kernel, rfl, by decide +kernel, by decide +kernel⟩
abbrev s_divisor_of : Stmt := top 12
abbrev n_divisor_of : List Str := ["one", "other"]
theorem c_divisor_of : FnScope n_divisor_of ["one", "other"] (defScope s_divisor_of) := ⟨rfl, rfl, rfl, by decide +kernel, rfl, by decide +kernel, by decide +kernel⟩
abbrev s_fraction : Stmt := top 13
abbrev n_fraction : List Str := ["top", "bottom", "by"]
theorem c_fraction : FnScope n_fraction ["top", "bottom"] (defScope s_fraction) := ⟨rfl, rfl, rfl, by decide +kernel, rfl, by decide +kernel, by decide +kernel⟩
abbrev s_is_fraction : Stmt := top 14
abbrev n_is_fraction : List Str := ["thing"]
theorem c_is_fraction : FnScope n_is_fraction ["thing"] (defScope s_is_fraction) := ⟨rfl, rfl, rfl, by decide +kernel, rfl, by decide +kernel, by decide +kernel⟩
abbrev s_plus : Stmt := top 15
abbrev n_plus : List Str := ["one", "other"]
theorem c_plus : FnScope n_plus ["one", "other"] (defScope s_plus) := ⟨rfl, rfl, rfl, by decide +kernel, rfl, by decide +kernel, by decide +kernel⟩
abbrev s_sum_of : Stmt := top 16
abbrev n_sum_of : List Str := ["numbers", "found", "number"]
theorem c_sum_of : FnScope n_sum_of ["numbers"] (defScope s_sum_of) := ⟨rfl, rfl, rfl, by decide +kernel, rfl, by decide +kernel, by decide +kernel⟩
abbrev s_is_share : Stmt := top 17
abbrev n_is_share : List Str := ["thing"]
theorem c_is_share : FnScope n_is_share ["thing"] (defScope s_is_share) := ⟨rfl, rfl, rfl, by decide +kernel, rfl, by decide +kernel, by decide +kernel⟩
abbrev s_is_move : Stmt := top 22
abbrev n_is_move : List Str := ["thing", "many"]
theorem c_is_move : FnScope n_is_move ["thing", "many"] (defScope s_is_move) := ⟨rfl, rfl, rfl, by decide +kernel, rfl, by decide +kernel, by decide +kernel⟩
abbrev s_System_init : Stmt := inClass (top 23) 0
abbrev n_System_init : List Str := ["self", "many", "moves", "number", "move", "share", "leads"]
theorem c_System_init : FnScope n_System_init ["self", "many", "moves"] (defScope s_System_init) := ⟨rfl, rfl, rfl, by decide +kernel, rfl, by decide +kernel, by decide +kernel⟩
abbrev s_check_row : Stmt := top 24
abbrev n_check_row : List Str := ["system", "row"]
theorem c_check_row : FnScope n_check_row ["system", "row"] (defScope s_check_row) := ⟨rfl, rfl, rfl, by decide +kernel, rfl, by decide +kernel, by decide +kernel⟩
abbrev s_all_behind : Stmt := top 25
abbrev n_all_behind : List Str := ["system", "row", "found", "move", "leads", "state"]
theorem c_all_behind : FnScope n_all_behind ["system", "row"] (defScope s_all_behind) := ⟨rfl, rfl, rfl, by decide +kernel, rfl, by decide +kernel, by decide +kernel⟩
abbrev s_led_all : Stmt := top 26
abbrev n_led_all : List Str := ["system", "row"]
theorem c_led_all : FnScope n_led_all ["system", "row"] (defScope s_led_all) := ⟨rfl, rfl, rfl, by decide +kernel, rfl, by decide +kernel, by decide +kernel⟩
abbrev s_lot_of : Stmt := top 27
abbrev n_lot_of : List Str := ["states"]
theorem c_lot_of : FnScope n_lot_of ["states"] (defScope s_lot_of) := ⟨rfl, rfl, rfl, by decide +kernel, rfl, by decide +kernel, by decide +kernel⟩
abbrev s_lot_led : Stmt := top 29
abbrev n_lot_led : List Str := ["system", "lot", "move", "leads", "state"]
theorem c_lot_led : FnScope n_lot_led ["system", "lot", "move"] (defScope s_lot_led) := ⟨rfl, rfl, rfl, by decide +kernel, rfl, by decide +kernel, by decide +kernel⟩
abbrev s_merging_row : Stmt := top 30
abbrev n_merging_row : List Str := ["system", "whole", "rows", "level", "lot", "ended", "later", "row", "move", "there"]
theorem c_merging_row : FnScope n_merging_row ["system"] (defScope s_merging_row) := ⟨rfl, rfl, rfl, by decide +kernel, rfl, by decide +kernel, by decide +kernel⟩
abbrev s_couple_led : Stmt := top 31
abbrev n_couple_led : List Str := ["system", "couple", "move", "there"]
theorem c_couple_led : FnScope n_couple_led ["system", "couple", "move"] (defScope s_couple_led) := ⟨rfl, rfl, rfl, by decide +kernel, rfl, by decide +kernel, by decide +kernel⟩
abbrev s_all_couples : Stmt := top 32
abbrev n_all_couples : List Str := ["system", "other", "one"]
theorem c_all_couples : FnScope n_all_couples ["system"] (defScope s_all_couples) := ⟨rfl, rfl, rfl, by decide +kernel, rfl, by decide +kernel, by decide +kernel⟩
abbrev s_apart_there : Stmt := top 33
abbrev n_apart_there : List Str := ["system", "left", "is_falling", "kept", "couple", "ends", "move", "end"]
theorem c_apart_there : FnScope n_apart_there ["system"] (defScope s_apart_there) := ⟨rfl, rfl, rfl, by decide +kernel, rfl, by decide +kernel, by decide +kernel⟩
abbrev s_apart : Stmt := top 34
abbrev n_apart : List Str := ["system"]
theorem c_apart : FnScope n_apart ["system"] (defScope s_apart) := ⟨rfl, rfl, rfl, by decide +kernel, rfl, by decide +kernel, by decide +kernel⟩
abbrev s_is_couple : Stmt := top 35
abbrev n_is_couple : List Str := ["system", "thing", "state"]
theorem c_is_couple : FnScope n_is_couple ["system", "thing"] (defScope s_is_couple) := ⟨rfl, rfl, rfl, by decide +kernel, rfl, by decide +kernel, by decide +kernel⟩
abbrev s_is_book : Stmt := top 36
abbrev n_is_book : List Str := ["system", "thing", "moves", "couple", "move"]
theorem c_is_book : FnScope n_is_book ["system", "thing"] (defScope s_is_book) := ⟨rfl, rfl, rfl, by decide +kernel, rfl, by decide +kernel, by decide +kernel⟩
abbrev s_L_hand : Stmt := top 38
abbrev n_L_hand : List Str := ["_law_script", "_law_cells", "_law_cell"]
theorem c_L_hand : FnScope n_L_hand ["_law_script"] (defScope s_L_hand) := ⟨rfl, rfl, rfl, by decide +kernel, rfl, by decide +kernel, by decide +kernel⟩
abbrev s_L_draw : Stmt := top 39
abbrev n_L_draw : List Str := ["_law_hand_here", "_law_many", "_law_cell", "_law_digit", "_law_number"]
theorem c_L_draw : FnScope n_L_draw ["_law_hand_here", "_law_many"] (defScope s_L_draw) := ⟨rfl, rfl, rfl, by decide +kernel, rfl, by decide +kernel, by decide +kernel⟩
abbrev s_L_any : Stmt := top 40
abbrev n_L_any : List Str := ["_law_hand_here", "_law_items"]
theorem c_L_any : FnScope n_L_any ["_law_hand_here", "_law_items"] (defScope s_L_any) := ⟨rfl, rfl, rfl, by decide +kernel, rfl, by decide +kernel, by decide +kernel⟩
abbrev s_L_is : Stmt := top 41
abbrev n_L_is : List Str := ["_law_told", "_law_due", "_law_one", "_law_two"]
theorem c_L_is : FnScope n_L_is ["_law_told", "_law_due"] (defScope s_L_is) := ⟨rfl, rfl, rfl, by decide +kernel, rfl, by decide +kernel, by decide +kernel⟩
abbrev s_L_low : Stmt := top 42
abbrev n_L_low : List Str := ["_law_top", "_law_bottom", "_law_one", "_law_other"]
theorem c_L_low : FnScope n_L_low ["_law_top", "_law_bottom"] (defScope s_L_low) := ⟨rfl, rfl, rfl, by decide +kernel, rfl, by decide +kernel, by decide +kernel⟩
abbrev s_L_parts : Stmt := top 43
abbrev n_L_parts : List Str := ["_law_hand_here", "_law_many", "_law_tops", "_law_k", "_law_top"]
theorem c_L_parts : FnScope n_L_parts ["_law_hand_here", "_law_many"] (defScope s_L_parts) := ⟨rfl, rfl, rfl, by decide +kernel, rfl, by decide +kernel, by decide +kernel⟩
abbrev s_L_leads : Stmt := top 44
abbrev n_L_leads : List Str := ["_law_hand_here", "_law_many", "_law_kind", "_law_states", "_law_found", "_law_turn", "_law_at", "_law_by", "_law_state"]
theorem c_L_leads : FnScope n_L_leads ["_law_hand_here", "_law_many"] (defScope s_L_leads) := ⟨rfl, rfl, rfl, by decide +kernel, rfl, by decide +kernel, by decide +kernel⟩
abbrev s_L_halved : Stmt := top 45
abbrev n_L_halved : List Str := ["_law_leads_here", "_law_found", "_law_state", "_law_there"]
theorem c_L_halved : FnScope n_L_halved ["_law_leads_here"] (defScope s_L_halved) := ⟨rfl, rfl, rfl, by decide +kernel, rfl, by decide +kernel, by decide +kernel⟩
abbrev s_L_moves : Stmt := top 46
abbrev n_L_moves : List Str := ["_law_hand_here", "_law_many", "_law_most", "_law_leads_here", "_law_k", "_law_one"]
theorem c_L_moves : FnScope n_L_moves ["_law_hand_here", "_law_many", "_law_most"] (defScope s_L_moves) := ⟨rfl, rfl, rfl, by decide +kernel, rfl, by decide +kernel, by decide +kernel⟩
abbrev s_L_led : Stmt := top 47
abbrev n_L_led : List Str := ["_law_leads_here", "_law_lot", "_law_state"]
theorem c_L_led : FnScope n_L_led ["_law_leads_here", "_law_lot"] (defScope s_L_led) := ⟨rfl, rfl, rfl, by decide +kernel, rfl, by decide +kernel, by decide +kernel⟩
abbrev s_L_merging : Stmt := top 48
abbrev n_L_merging : List Str := ["_law_many", "_law_moves_here", "_law_rows", "_law_known", "_law_row", "_law_lot", "_law_ended", "_law_longer", "_law_number", "_law_there"]
theorem c_L_merging : FnScope n_L_merging ["_law_many", "_law_moves_here"] (defScope s_L_merging) := ⟨rfl, rfl, rfl, by decide +kernel, rfl, by decide +kernel, by decide +kernel⟩
abbrev s_L_couples : Stmt := top 49
abbrev n_L_couples : List Str := ["_law_many", "_law_found", "_law_one", "_law_other"]
theorem c_L_couples : FnScope n_L_couples ["_law_many"] (defScope s_L_couples) := ⟨rfl, rfl, rfl, by decide +kernel, rfl, by decide +kernel, by decide +kernel⟩
abbrev s_L_apart : Stmt := top 50
abbrev n_L_apart : List Str := ["_law_many", "_law_moves_here", "_law_couples_here", "_law_pair", "_law_met", "_law_turn", "_law_share", "_law_leads_here"]
theorem c_L_apart : FnScope n_L_apart ["_law_many", "_law_moves_here"] (defScope s_L_apart) := ⟨rfl, rfl, rfl, by decide +kernel, rfl, by decide +kernel, by decide +kernel⟩
abbrev s_L_is_book : Stmt := top 51
abbrev n_L_is_book : List Str := ["_law_many", "_law_moves_here", "_law_thing", "_law_pair", "_law_end", "_law_share", "_law_leads_here"]
theorem c_L_is_book : FnScope n_L_is_book ["_law_many", "_law_moves_here", "_law_thing"] (defScope s_L_is_book) := ⟨rfl, rfl, rfl, by decide +kernel, rfl, by decide +kernel, by decide +kernel⟩
abbrev s_L_nested : Stmt := top 52
abbrev n_L_nested : List Str := ["_law_hand_here", "_law_thing", "_law_turn"]
theorem c_L_nested : FnScope n_L_nested ["_law_hand_here"] (defScope s_L_nested) := ⟨rfl, rfl, rfl, by decide +kernel, rfl, by decide +kernel, by decide +kernel⟩
abbrev s_L_shortest : Stmt := top 53
abbrev n_L_shortest : List Str := ["_law_many", "_law_moves_here", "_law_most", "_law_rows", "_law_length", "_law_row", "_law_states", "_law_ended", "_law_longer", "_law_number", "_law_state"]
theorem c_L_shortest : FnScope n_L_shortest ["_law_many", "_law_moves_here", "_law_most"] (defScope s_L_shortest) := ⟨rfl, rfl, rfl, by decide +kernel, rfl, by decide +kernel, by decide +kernel⟩
abbrev s_L_grown : Stmt := top 54
abbrev n_L_grown : List Str := ["_law_moves_here", "_law_pair", "_law_found", "_law_at", "_law_share", "_law_leads_here", "_law_there"]
theorem c_L_grown : FnScope n_L_grown ["_law_moves_here", "_law_pair"] (defScope s_L_grown) := ⟨rfl, rfl, rfl, by decide +kernel, rfl, by decide +kernel, by decide +kernel⟩
abbrev s_L_books : Stmt := top 55
abbrev n_L_books : List Str := ["_law_hand_here", "_law_many", "_law_moves_here", "_law_due", "_law_couples_here", "_law_some", "_law_at", "_law_grown_here", "_law_odd", "_law_pair"]
theorem c_L_books : FnScope n_L_books ["_law_hand_here", "_law_many", "_law_moves_here", "_law_due"] (defScope s_L_books) := ⟨rfl, rfl, rfl, by decide +kernel, rfl, by decide +kernel, by decide +kernel⟩
abbrev s_L_turned : Stmt := top 56
abbrev n_L_turned : List Str := ["_law_hand_here", "_law_many", "_law_order", "_law_left", "_law_turn", "_law_ring", "_law_step", "_law_at", "_law_moves_here"]
theorem c_L_turned : FnScope n_L_turned ["_law_hand_here", "_law_many"] (defScope s_L_turned) := ⟨rfl, rfl, rfl, by decide +kernel, rfl, by decide +kernel, by decide +kernel⟩
abbrev s_L_one_right : Stmt := top 57
abbrev n_L_one_right : List Str := ["_law_hand_here", "_law_many", "_law_moves_here", "_law_system", "_law_due", "_law_pairs", "_law_told", "_law_thing", "_law_flag"]
theorem c_L_one_right : FnScope n_L_one_right ["_law_hand_here", "_law_many", "_law_moves_here"] (defScope s_L_one_right) := ⟨rfl, rfl, rfl, by decide +kernel, rfl, by decide +kernel, by decide +kernel⟩
abbrev s_law : Stmt := top 58
abbrev n_law : List Str := ["_law_script", "_law_hand_here", "_law_turn", "_law_many"]
theorem c_law : FnScope n_law ["_law_script"] (defScope s_law) := ⟨rfl, rfl, rfl, by decide +kernel, rfl, by decide +kernel, by decide +kernel⟩
end A8
set_option Elab.async false
set_option linter.all false
set_option maxRecDepth 100000
set_option maxHeartbeats 4000000
namespace A8
open PySem PySem.Spec PyProof.Rows L2
/-- the facts of the top that the walks lean on -/
structure Tx (E : En) : Prop where
  b : Bt E.mg
  cl : Cls E.K E.C
  nMany : NoAttr E.K E.C "many"
  nMoves : NoAttr E.K E.C "moves"
  mgC : E.mg "System" = some (.ref E.C)
  zero : ∃ a, E.mg "ZERO" = some (.ref a) ∧ ∀ F, SqT E.K F a [.int 0, .int 1]
  one : ∃ a, E.mg "ONE" = some (.ref a) ∧ ∀ F, SqT E.K F a [.int 1, .int 1]
  mStates : ∃ t, E.mg "MOST_STATES" = some (.int 12 t)
  mMoves : ∃ t, E.mg "MOST_MOVES" = some (.int 24 t)
  mRow : ∃ t, E.mg "MOST_ROW" = some (.int 400 t)
variable {E : En} (T : Tx E)
def Dt.isInt : Dt → Bool
  | .int _ => true
  | _ => false
def Dt.within (d : Dt) (lo hi : Int) : Bool := match d with
  | .int i => decide (lo ≤ i ∧ i ≤ hi)
  | _ => false
theorem noOwn_dat {ks : List Ki} (ds : List Dt) (h : ks = ds.map Ki.dat) : noOwn ks := fun k hk => by
  rw [h] at hk
  obtain ⟨d, _, rfl⟩ := List.mem_map.mp hk
  exact ⟨fun z => z, True.intro⟩
theorem Fun.cl {x qual : Str} {st : Stmt} {fa : Addr} {fd : FuncData} {k : Nat} {ps : List Str} {S : List Ki → (Ki → Prop) → Prop} (F : Fun E.K x qual st fa fd) (ok : FnOk E.P E.w E.K E.mg E.base CX0 k fa fd ps (spG E.K E.C S)) (hm : E.mg x = some (.ref fa)) (b : L2.Binds E.K fd ps []) : Cl E k x S :=
  ⟨fa, fd, ps, ok, hm, F.kp, b⟩
def R_is_integer (ks : List Ki) (P : Ki → Prop) : Prop := ∃ d : Dt, d.cls ≠ "" ∧ ks = [.dat d] ∧ P = one (.bl d.isInt)
def R_is_within (ks : List Ki) (P : Ki → Prop) : Prop := ∃ (d : Dt) (lo hi : Int), d.cls ≠ "" ∧ ks = [.dat d, .dat (.int lo), .dat (.int hi)] ∧ P = one (.bl (d.within lo hi))
def Dt.nums (d : Dt) (mm : Int) (hi : Int) : Bool := match d with
  | .tup l => decide ((l.length : Int) ≤ mm) && l.all fun x => x.within 0 hi
  | _ => false
def R_are_numbers (ks : List Ki) (P : Ki → Prop) : Prop := ∃ (l : List Dt) (mm hi : Int), (∀ x ∈ l, x.cls ≠ "") ∧ l.length ≤ 1000000 ∧ ks = [.dat (.tup l), .dat (.int mm), .dat (.int hi)] ∧ P = one (.bl (decide ((l.length : Int) ≤ mm) && l.all fun x => x.within 0 hi))
section
include T
theorem ok_is_integer {fa : Addr} {fd : FuncData} (F : Fun E.K "is_integer" "is_integer" s_is_integer fa fd) : FnOk E.P E.w E.K E.mg E.base CX0 1 fa fd ["thing"] (spG E.K E.C R_is_integer) := by
  refine fn_ok F c_is_integer (fun ks P ⟨d, _, e, _⟩ => by rw [e]; rfl) (fun ks P ⟨d, _, e, _⟩ => noOwn_dat [d] e) fun hd ks P h => ?_
  obtain ⟨d, hc, rfl, rfl⟩ := h
  have e : Dt.isInt d = (d.isa "int" && !d.isa "bool") := by cases d <;> rfl
  rw [e]
  exact sx_one (s1_ret (ed_and (ed_isaInt T.b (ex_v 0) hc) fun _ => ed_one (ed_not (ed_isaBool T.b (ex_v 0) hc))))
theorem ok_is_within {fa : Addr} {fd : FuncData} (c1 : Cl E 1 "is_integer" R_is_integer) (F : Fun E.K "is_within" "is_within" s_is_within fa fd) : FnOk E.P E.w E.K E.mg E.base CX0 2 fa fd ["thing", "least", "most"] (spG E.K E.C R_is_within) := by
  refine fn_ok F c_is_within (fun ks P ⟨d, _, _, _, e, _⟩ => by rw [e]; rfl) (fun ks P ⟨d, lo, hi, _, e, _⟩ => noOwn_dat [d, .int lo, .int hi] e) fun hd ks P h => ?_
  obtain ⟨d, lo, hi, hc, rfl, rfl⟩ := h
  refine sx_one (s1_ret (ED.is (ed_and (y := d.within lo hi) (ed_call c1 (ad_cons (ex_v 0) ad_nil) ⟨d, hc, rfl, rfl⟩) fun hi => ed_one ?_) ?_))
  · cases d <;> first | cases hi | skip
    exact ed_chain_ll (ex_v 1) (ex_v 0) (ex_v 2)
  · cases d <;> rfl
theorem ok_are_numbers {fa : Addr} {fd : FuncData} (c2 : Cl E 2 "is_within" R_is_within) (F : Fun E.K "are_numbers" "are_numbers" s_are_numbers fa fd) : FnOk E.P E.w E.K E.mg E.base CX0 3 fa fd ["thing", "most_many", "most"] (spG E.K E.C R_are_numbers) := by
  refine fn_ok F c_are_numbers (fun ks P ⟨d, _, _, _, _, e, _⟩ => by rw [e]; rfl) (fun ks P ⟨l, mm, hi, _, _, e, _⟩ => noOwn_dat [.tup l, .int mm, .int hi] e) fun hd ks P h => ?_
  obtain ⟨l, mm, hi, hc, hl, rfl, rfl⟩ := h
  refine sx_cons (N1 := fun G' => G' = [.dat (.tup l), .dat (.int mm), .dat (.int hi), .un] ∧ (l.length : Int) ≤ mm) (s1_if (WX.tx (wd_or (td_not (td_val (ed_isaTup T.b (ex_v 0) ctup))) fun _ => wd_or1 (td_gt (ed_len T.b (ex_v 0) (.tup l)) (ex_v 1)))) (fun h => ?_) (fun h => ?_)) ?_
  · refine sx_one (s1_ret (ED.is ex_bl ?_))
    have : ¬ (l.length : Int) ≤ mm := by simpa [Dt.isa, isaC, Dt.cls] using h
    simp [this]
  · refine sx_nil ⟨rfl, ?_⟩
    simpa [Dt.isa, isaC, Dt.cls] using h
  · rintro G' ⟨rfl, hm⟩
    refine sx_one (s1_ret (ED.is (ed_all T.b (bs := l.map fun x => x.within 0 hi) (ED.is (ed_lc (.one 3) [("number", 3)] l id (fun x => .bl (x.within 0 hi)) (by rw [List.map_id]; exact ix_tupT (ex_v 0)) (gx_one 3) (fun x hx => ?_) hl) ?_)) ?_))
    · exact ed_call c2 (ad_cons (ex_v 3) (ad_cons ex_int (ad_cons (ex_v 2) ad_nil))) ⟨x, 0, hi, hc x hx, rfl, rfl⟩
    · rw [List.map_map]; rfl
    · simp [hm, List.all_map, Function.comp_def]
end
end A8
set_option Elab.async false
set_option linter.all false
set_option maxRecDepth 100000
set_option maxHeartbeats 4000000
namespace A8
open PySem PySem.Spec PyProof.Rows L2
variable {E : En} (T : Tx E)
/-- a fraction -/
def fr (a b : Int) : Dt := .tup [.int a, .int b]
def IsFr (d : Dt) (a b : Int) : Prop := d = .tup [.int a, .int b] ∨ d = .tuq [.int a, .int b]
def gcdI (a b : Int) : Int := (Nat.gcd a.natAbs b.natAbs : Nat)
def R_divisor_of (ks : List Ki) (P : Ki → Prop) : Prop := ∃ a b : Int, ks = [.dat (.int a), .dat (.int b)] ∧ P = one (.int (gcdI a b))
section
include T
theorem ok_divisor_of {fa : Addr} {fd : FuncData} (F : Fun E.K "divisor_of" "divisor_of" s_divisor_of fa fd) : FnOk E.P E.w E.K E.mg E.base CX0 1 fa fd ["one", "other"] (spG E.K E.C R_divisor_of) := by
  refine fn_ok F c_divisor_of (fun ks P ⟨_, _, e, _⟩ => by rw [e]; rfl) (fun ks P ⟨a, b, e, _⟩ => noOwn_dat [.int a, .int b] e) fun hd ks P h => ?_
  obtain ⟨a, b, rfl, rfl⟩ := h
  refine sx_cons (s1_par 0 1 (ed_abs T.b (ex_v 0)) (ed_abs T.b (ex_v 1)) (fun k h => by rw [h]; trivial) (fun k h => by rw [h]; trivial)) ?_
  rintro G' ⟨k, k', rfl, rfl, rfl⟩
  refine sx_cons (N1 := fun G' => G' = [.dat (.int (gcdI a b)), .dat (.int 0)]) (s1_while (fun m G' => ∃ x : Nat, Nat.gcd x m = Nat.gcd a.natAbs b.natAbs ∧ G' = [.dat (.int x), .dat (.int m)]) b.natAbs ⟨a.natAbs, rfl, rfl⟩ (fun m _ => decide (0 < m)) ?_ ?_ ?_) ?_
  · rintro m G' ⟨x, hx, rfl⟩
    exact (td_gt (ex_v 1) ex_int).weaken fun c h => by rw [h]; simp
  · rintro m G' ⟨x, hx, rfl⟩ hm
    have hm' : 0 < m := of_decide_eq_true hm
    refine sx_cons (s1_par 0 1 (ex_v 1) (ed_mod (ex_v 0) (ex_v 1) (by omega)) (fun k h => by rw [h]; trivial) (fun k h => by rw [h]; trivial)) ?_
    rintro G' ⟨k, k', rfl, rfl, rfl⟩
    refine sx_nil ⟨x % m, Nat.mod_lt _ hm', m, ?_, ?_⟩
    · rw [← hx, Nat.gcd_comm m (x % m), ← Nat.gcd_rec, Nat.gcd_comm]
    · rfl
  · rintro m G' ⟨x, hx, rfl⟩ hm
    have hm' : m = 0 := by simpa using hm
    subst hm'
    rw [Nat.gcd_zero_right] at hx
    unfold gcdI
    rw [← hx]
    rfl
  · rintro G' rfl
    exact sx_one (s1_ret (ex_v 0))
end
end A8
set_option Elab.async false
set_option linter.all false
set_option maxRecDepth 100000
set_option maxHeartbeats 1000000
namespace A8
open PySem PySem.Spec PyProof.Rows L2
variable {E : En} (T : Tx E) {f : Fm} {G : List Ki} {e a b c : Expr} {pos : Pos}
theorem gcdI_pos {a b : Int} (h : 0 < b) : 0 < gcdI a b ∧ gcdI a b ≤ b := by
  unfold gcdI
  have h1 : 0 < Nat.gcd a.natAbs b.natAbs := Nat.gcd_pos_of_pos_right _ (by omega)
  have h2 : Nat.gcd a.natAbs b.natAbs ≤ b.natAbs := Nat.le_of_dvd (by omega) (Nat.gcd_dvd_right _ _)
  omega
def frl (t b : Int) : Int × Int := (t / gcdI t b, b / gcdI t b)
def fadd (p q : Int × Int) : Int × Int := frl (p.1 * q.2 + q.1 * p.2) (p.2 * q.2)
def frp (p : Int × Int) : Dt := fr p.1 p.2
def IsP (d : Dt) (p : Int × Int) : Prop := IsFr d p.1 p.2
def R_fraction (ks : List Ki) (P : Ki → Prop) : Prop := ∃ a b : Int, 0 < b ∧ b < 1073741824 ∧ ks = [.dat (.int a), .dat (.int b)] ∧ P = A8.one (frp (frl a b))
def R_is_fraction (ks : List Ki) (P : Ki → Prop) : Prop := ∃ a b : Int, 0 < b ∧ gcdI a b = 1 ∧ ks = [.dat (fr a b)] ∧ P = A8.one (.bl true)
def R_is_share (ks : List Ki) (P : Ki → Prop) : Prop := ∃ a b : Int, 0 < a ∧ 0 < b ∧ gcdI a b = 1 ∧ ks = [.dat (fr a b)] ∧ P = A8.one (.bl true)
def R_plus (ks : List Ki) (P : Ki → Prop) : Prop := ∃ (d d' : Dt) (p q : Int × Int), IsP d p ∧ IsP d' q ∧ 0 < p.2 ∧ 0 < q.2 ∧ p.2 * q.2 < 1073741824 ∧ ks = [.dat d, .dat d'] ∧ P = A8.one (frp (fadd p q))
def SumOk : Int × Int → List (Int × Int) → Prop
  | _, [] => True
  | p, q :: fs => 0 < p.2 ∧ 0 < q.2 ∧ p.2 * q.2 < 1073741824 ∧ SumOk (fadd p q) fs
def R_sum_of (ks : List Ki) (P : Ki → Prop) : Prop := ∃ fs : List (Int × Int), SumOk (0, 1) fs ∧ fs.length ≤ 1000 ∧ ks = [.dat (.lst (fs.map frp))] ∧ P = fun k => ∃ d, k = .dat d ∧ IsP d (fs.foldl fadd (0, 1))
/-- moves as data -/
structure Mv where
  t : Int
  b : Int
  ld : List Nat
def Mv.d (m : Mv) : Dt := .tup [fr m.t m.b, nt m.ld]
def Mv.good (n : Nat) (m : Mv) : Prop := 0 < m.t ∧ 0 < m.b ∧ gcdI m.t m.b = 1 ∧ m.ld.length = n ∧ ∀ x ∈ m.ld, x < n
def R_is_move (ks : List Ki) (P : Ki → Prop) : Prop := ∃ (n : Nat) (m : Mv), n ≤ 12 ∧ m.good n ∧ ks = [.dat m.d, .dat (.int n)] ∧ P = A8.one (.bl true)
theorem ed_ixF {d : Dt} {p : Int × Int} {i : Int} {x : Int} (ha : ED E f a G d) (hp : IsP d p) (hb : ED E f b G (.int i)) (h : atI [Dt.int p.1, Dt.int p.2] i = some (.int x)) (hs : PlainIx b := by intro _ _; rfl) : ED E f (.Subscript a b pos) G (.int x) :=
  ex_ixT ha hp hb.ii (fun j hj => ⟨.int x, by rw [hj]; exact h, rfl⟩) hs
theorem cfr {a b : Int} : (fr a b).cls ≠ "" := ctup
section
include T
theorem ok_fraction {fa : Addr} {fd : FuncData} (cD : Cl E 1 "divisor_of" R_divisor_of) (F : Fun E.K "fraction" "fraction" s_fraction fa fd) : FnOk E.P E.w E.K E.mg E.base CX0 2 fa fd ["top", "bottom"] (spG E.K E.C R_fraction) := by
  refine fn_ok F c_fraction (fun ks P ⟨_, _, _, _, e, _⟩ => by rw [e]; rfl) (fun ks P ⟨a, b, _, _, e, _⟩ => noOwn_dat [.int a, .int b] e) fun hd ks P h => ?_
  obtain ⟨a, b, h0, h1, rfl, rfl⟩ := h
  refine sx_cons (N1 := fun G' => G' = [.dat (.int a), .dat (.int b), .un]) (s1_if (td_lt (ex_v 1) ex_int) (fun h => ?_) fun h => sx_nil rfl) ?_
  · exact absurd (of_decide_eq_true h.symm) (by omega)
  · rintro G' rfl
    have g := gcdI_pos (a := a) h0
    refine sx_set 2 (ed_call cD (ad_cons (ex_v 0) (ad_cons (ex_v 1) ad_nil)) ⟨a, b, rfl, rfl⟩) ?_
    exact sx_one (s1_ret (ed_tup (ds := [.int (a / gcdI a b), .int (b / gcdI a b)]) (ad_cons (ed_div (ex_v 0) (ex_v 2) ⟨g.1, by omega⟩) (ad_cons (ed_div (ex_v 1) (ex_v 2) ⟨g.1, by omega⟩) ad_nil))))
theorem ok_is_fraction {fa : Addr} {fd : FuncData} (c1 : Cl E 1 "is_integer" R_is_integer) (cD : Cl E 1 "divisor_of" R_divisor_of) (F : Fun E.K "is_fraction" "is_fraction" s_is_fraction fa fd) : FnOk E.P E.w E.K E.mg E.base CX0 2 fa fd ["thing"] (spG E.K E.C R_is_fraction) := by
  refine fn_ok F c_is_fraction (fun ks P ⟨_, _, _, _, e, _⟩ => by rw [e]; rfl) (fun ks P ⟨a, b, _, _, e, _⟩ => noOwn_dat [fr a b] e) fun hd ks P h => ?_
  obtain ⟨a, b, h0, h1, rfl, rfl⟩ := h
  have i0 : atI [Dt.int a, Dt.int b] 0 = some (.int a) := rfl
  have i1 : atI [Dt.int a, Dt.int b] 1 = some (.int b) := rfl
  refine sx_cons (N1 := fun G' => G' = [.dat (fr a b)]) (s1_if (WX.tx (wd_or (td_not (td_val (ed_isaTup T.b (ex_v 0) cfr))) fun _ => wd_or (td_ne (ed_len T.b (ex_v 0) (.tup [.int a, .int b])) ex_int) fun _ => wd_or (td_not (td_val (ed_call c1 (ad_cons (ed_ixT (ex_v 0) ex_int i0) ad_nil) ⟨.int a, cint, rfl, rfl⟩))) fun _ =>
    wd_or1 (td_not (td_val (ed_call c1 (ad_cons (ed_ixT (ex_v 0) ex_int i1) ad_nil) ⟨.int b, cint, rfl, rfl⟩))))) (fun h => ?_) fun h => sx_nil rfl) ?_
  · simp [Dt.isa, isaC, fr, Dt.cls, Dt.isInt] at h
  · rintro G' rfl
    refine sx_one (s1_ret (ED.is (ed_and (ed_gt (ed_ixT (ex_v 0) ex_int i1) ex_int) fun _ => ed_one (ed_eq (ed_call cD (ad_cons (ed_ixT (ex_v 0) ex_int i0) (ad_cons (ed_ixT (ex_v 0) ex_int i1) ad_nil)) ⟨a, b, rfl, rfl⟩) ex_int)) ?_))
    simp [h0, h1]
theorem ok_is_share {fa : Addr} {fd : FuncData} (c : Cl E 2 "is_fraction" R_is_fraction) (F : Fun E.K "is_share" "is_share" s_is_share fa fd) : FnOk E.P E.w E.K E.mg E.base CX0 3 fa fd ["thing"] (spG E.K E.C R_is_share) := by
  refine fn_ok F c_is_share (fun ks P ⟨_, _, _, _, _, e, _⟩ => by rw [e]; rfl) (fun ks P ⟨a, b, _, _, _, e, _⟩ => noOwn_dat [fr a b] e) fun hd ks P h => ?_
  obtain ⟨a, b, ha, h0, h1, rfl, rfl⟩ := h
  have i0 : atI [Dt.int a, Dt.int b] 0 = some (.int a) := rfl
  refine sx_one (s1_ret (ED.is (ed_and (ed_call c (ad_cons (ex_v 0) ad_nil) ⟨a, b, h0, h1, rfl, rfl⟩) fun _ => ed_one (ed_gt (ed_ixT (ex_v 0) ex_int i0) ex_int)) ?_))
  simp [ha]
theorem ok_plus {fa : Addr} {fd : FuncData} (c : Cl E 2 "fraction" R_fraction) (F : Fun E.K "plus" "plus" s_plus fa fd) : FnOk E.P E.w E.K E.mg E.base CX0 3 fa fd ["one", "other"] (spG E.K E.C R_plus) := by
  refine fn_ok F c_plus (fun ks P ⟨_, _, _, _, _, _, _, _, _, e, _⟩ => by rw [e]; rfl) (fun ks P ⟨d, d', _, _, _, _, _, _, _, e, _⟩ => noOwn_dat [d, d'] e) fun hd ks P h => ?_
  obtain ⟨d, d', p, q, hp, hq, h0, h1, h2, rfl, rfl⟩ := h
  have b1 : p.2 ≤ p.2 * q.2 := by have := Int.mul_le_mul_of_nonneg_left (show 1 ≤ q.2 by omega) (show 0 ≤ p.2 by omega); omega
  have b2 : q.2 ≤ p.2 * q.2 := by have := Int.mul_le_mul_of_nonneg_right (show 1 ≤ p.2 by omega) (show 0 ≤ q.2 by omega); omega
  have b3 : 0 < p.2 * q.2 := by omega
  have m1 : ∀ x : Int, CMul x q.2 := fun x => .inr ⟨by omega, by omega⟩
  have m2 : ∀ x : Int, CMul x p.2 := fun x => .inr ⟨by omega, by omega⟩
  refine sx_one (s1_ret (ed_call c (ad_cons (ed_add (ed_mul (ed_ixF (ex_v 0) hp ex_int rfl) (ed_ixF (ex_v 1) hq ex_int rfl) (m1 _)) (ed_mul (ed_ixF (ex_v 1) hq ex_int rfl) (ed_ixF (ex_v 0) hp ex_int rfl) (m2 _))) (ad_cons (ed_mul (ed_ixF (ex_v 0) hp ex_int rfl) (ed_ixF (ex_v 1) hq ex_int rfl) (m1 _)) ad_nil)) ⟨_, _, b3, h2, rfl, rfl⟩))
theorem ok_sum_of {fa : Addr} {fd : FuncData} (c : Cl E 3 "plus" R_plus) (F : Fun E.K "sum_of" "sum_of" s_sum_of fa fd) : FnOk E.P E.w E.K E.mg E.base CX0 4 fa fd ["numbers"] (spG E.K E.C R_sum_of) := by
  refine fn_ok F c_sum_of (fun ks P ⟨_, _, _, e, _⟩ => by rw [e]; rfl) (fun ks P ⟨fs, _, _, e, _⟩ => noOwn_dat [.lst (fs.map frp)] e) fun hd ks P h => ?_
  obtain ⟨fs, hok, hl, rfl, rfl⟩ := h
  obtain ⟨az, hz, sz⟩ := T.zero
  refine sx_set 1 (ex_g (v := .ref az) (d := .tuq [.int 0, .int 1]) hz rfl fun F => .tuq (sz F) (.cons (.int 0) (.cons (.int 1) .nil))) ?_
  refine sx_cons (s1_for (.one 2) fs frp (fun i G' => ∃ (d : Dt) (x : Ki), IsP d ((fs.take i).foldl fadd (0, 1)) ∧ SumOk ((fs.take i).foldl fadd (0, 1)) (fs.drop i) ∧ G' = [.dat (.lst (fs.map frp)), .dat d, x]) (ix_lst (ex_v 0)) (gx_one 2) ⟨_, _, .inr rfl, hok, rfl⟩ ?_) ?_
  · rintro i q hi G' ⟨d, x, hd, hs, rfl⟩
    have hlt := (List.getElem?_eq_some_iff.mp hi).1
    have hq : fs[i] = q := (List.getElem?_eq_some_iff.mp hi).2
    rw [List.drop_eq_getElem_cons hlt, hq] at hs
    obtain ⟨h1, h2, h3, h4⟩ := hs
    have e : (fs.take (i + 1)).foldl fadd (0, 1) = fadd ((fs.take i).foldl fadd (0, 1)) q := by rw [List.take_add_one, hi, List.foldl_append]; rfl
    refine sx_set 1 (ed_call c (ad_cons (ex_v 1) (ad_cons (ex_v 2) ad_nil)) ⟨d, frp q, _, q, hd, .inl rfl, h1, h2, h3, rfl, rfl⟩) ?_
    exact sx_nil ⟨_, _, by rw [e]; exact .inl rfl, by rw [e]; exact h4, rfl⟩
  · rintro G' ⟨d, x, hd, _, rfl⟩
    rw [List.take_length] at hd
    exact sx_one (s1_ret ((ex_v 1).weaken fun k h => ⟨d, h, hd⟩))
theorem ok_is_move {fa : Addr} {fd : FuncData} (c : Cl E 3 "is_share" R_is_share) (c2 : Cl E 3 "are_numbers" R_are_numbers) (F : Fun E.K "is_move" "is_move" s_is_move fa fd) : FnOk E.P E.w E.K E.mg E.base CX0 4 fa fd ["thing", "many"] (spG E.K E.C R_is_move) := by
  refine fn_ok F c_is_move (fun ks P ⟨_, _, _, _, e, _⟩ => by rw [e]; rfl) (fun ks P ⟨n, m, _, _, e, _⟩ => noOwn_dat [m.d, .int n] e) fun hd ks P h => ?_
  obtain ⟨n, m, hn, ⟨g1, g2, g3, g4, g5⟩, rfl, rfl⟩ := h
  have i0 : atI [fr m.t m.b, nt m.ld] 0 = some (fr m.t m.b) := rfl
  have i1 : atI [fr m.t m.b, nt m.ld] 1 = some (nt m.ld) := rfl
  refine sx_cons (N1 := fun G' => G' = [.dat m.d, .dat (.int n)]) (s1_if (WX.tx (wd_or (td_not (td_val (ed_isaTup T.b (ex_v 0) ctup))) fun _ => wd_or (td_ne (ed_len T.b (ex_v 0) (.tup [fr m.t m.b, nt m.ld])) ex_int) fun _ => wd_or1 (td_not (td_val (ed_call c (ad_cons (ed_ixT (ex_v 0) ex_int i0) ad_nil) ⟨m.t, m.b, g1, g2, g3, rfl, rfl⟩))))) (fun h => ?_) fun h => sx_nil rfl) ?_
  · simp [Dt.isa, isaC, Dt.cls] at h
  · rintro G' rfl
    have hc : ∀ x ∈ natsD m.ld, x.cls ≠ "" := fun x hx => by
      obtain ⟨y, _, rfl⟩ := List.mem_map.mp hx
      exact cint
    have hlen : (natsD m.ld).length = n := by rw [← g4]; exact List.length_map ..
    refine sx_one (s1_ret (ED.is (ed_and (ed_call c2 (ad_cons (ed_ixT (ex_v 0) ex_int i1) (ad_cons (ex_v 1) (ad_cons (ed_sub (ex_v 1) ex_int) ad_nil))) ⟨natsD m.ld, n, n - 1, hc, by omega, rfl, rfl⟩) fun _ => ed_one (ed_eq (ed_len T.b (ed_ixT (ex_v 0) ex_int i1) (.tup (natsD m.ld))) (ex_v 1))) ?_))
    rw [hlen]
    have ha : ((natsD m.ld).all fun x => x.within 0 (n - 1)) = true := by
      rw [List.all_eq_true]
      intro x hx
      obtain ⟨y, hy, rfl⟩ := List.mem_map.mp hx
      have := g5 y hy
      show decide ((0 : Int) ≤ y ∧ (y : Int) ≤ n - 1) = true
      exact decide_eq_true ⟨by omega, by omega⟩
    rw [ha]
    simp
end
end A8
set_option Elab.async false
set_option linter.all false
set_option maxRecDepth 100000
set_option maxHeartbeats 1000000
namespace A8
open PySem PySem.Spec PyProof.Rows L2
variable {E : En} (T : Tx E) {f : Fm} {G : List Ki} {e a b c : Expr} {pos : Pos}
theorem atI_at {α : Type} {l : List α} {j : Nat} {x : α} (h : l[j]? = some x) : atI l (j : Int) = some x := by
  have hl := (List.getElem?_eq_some_iff.mp h).1
  unfold atI ixN
  rw [if_pos (by omega), if_pos (by omega)]
  simpa using h
theorem atI_0 {α : Type} {x : α} {l : List α} : atI (x :: l) 0 = some x := by
  have := atI_at (l := x :: l) (j := 0) (x := x) rfl
  simpa using this
theorem atI_1 {α : Type} {x y : α} {l : List α} : atI (x :: y :: l) 1 = some y := by
  have := atI_at (l := x :: y :: l) (j := 1) (x := y) rfl
  simpa using this
/-! ### systems -/
def sysD (n : Nat) (ms : List Mv) : Dt := .sys n (ms.map Mv.d)
structure Aut (n : Nat) (ms : List Mv) : Prop where
  n1 : 1 ≤ n
  n12 : n ≤ 12
  m1 : 1 ≤ ms.length
  m24 : ms.length ≤ 24
  ld : ∀ m ∈ ms, m.ld.length = n ∧ ∀ x ∈ m.ld, x < n
def ldAt (ms : List Mv) (i : Nat) : List Nat := ((ms[i]?).map Mv.ld).getD []
def go (ld : List Nat) (s : Nat) : Nat := ld.getD s 0
theorem Aut.at {n : Nat} {ms : List Mv} (A : Aut n ms) {i : Nat} (h : i < ms.length) : ∃ m : Mv, ms[i]? = some m ∧ m.ld = ldAt ms i ∧ (ldAt ms i).length = n ∧ ∀ x ∈ ldAt ms i, x < n := by
  have e := List.getElem?_eq_getElem h
  refine ⟨ms[i], e, ?_⟩
  unfold ldAt
  rw [e]
  have := A.ld ms[i] (List.getElem_mem h)
  exact ⟨rfl, this.1, this.2⟩
theorem go_lt {n : Nat} {ld : List Nat} (hl : ld.length = n) (hx : ∀ x ∈ ld, x < n) {s : Nat} (hs : s < n) : go ld s < n ∧ ld[s]? = some (go ld s) := by
  have h : s < ld.length := by omega
  unfold go
  rw [List.getD_eq_getElem?_getD, List.getElem?_eq_getElem h]
  exact ⟨hx _ (List.getElem_mem h), rfl⟩
theorem atI_go {n : Nat} {ld : List Nat} (hl : ld.length = n) (hx : ∀ x ∈ ld, x < n) {s : Nat} (hs : s < n) : atI (natsD ld) (s : Int) = some (.int (go ld s : Nat)) := by
  refine atI_at ?_
  unfold natsD
  rw [List.getElem?_map, (go_lt hl hx hs).2]
  rfl
def led (ld l : List Nat) : List Nat := lot (l.map (go ld))
def allB (ms : List Mv) (n : Nat) (r : List Nat) : List Nat := r.foldl (fun fd m => fd.map (go (ldAt ms m))) (List.range n)
def clD (t : List Nat) : Dt := if t.length = 2 then nt t else .non
abbrev pc (p : Nat × Nat) : Dt := nt [p.1, p.2]
def couples (n : Nat) : List (Nat × Nat) := (List.range n).flatMap fun o => (List.range o).map fun a => (a, o)
def R_check_row (ks : List Ki) (P : Ki → Prop) : Prop := ∃ (n : Nat) (ms : List Mv) (r : List Nat), Aut n ms ∧ r.length ≤ 400 ∧ (∀ x ∈ r, x < ms.length) ∧ ks = [.dat (sysD n ms), .dat (nt r)] ∧ P = A8.one .non
def R_all_behind (ks : List Ki) (P : Ki → Prop) : Prop := ∃ (n : Nat) (ms : List Mv) (r : List Nat), Aut n ms ∧ r.length ≤ 400 ∧ (∀ x ∈ r, x < ms.length) ∧ ks = [.dat (sysD n ms), .dat (nt r)] ∧ P = A8.one (nt (allB ms n r))
def R_lot_of (ks : List Ki) (P : Ki → Prop) : Prop := ∃ l : List Nat, (∀ x ∈ l, x < 12) ∧ l.length < 64 ∧ ks = [.dat (.lst (natsD l))] ∧ P = A8.one (nt (lot l))
def R_lot_led (ks : List Ki) (P : Ki → Prop) : Prop := ∃ (n : Nat) (ms : List Mv) (l : List Nat) (i : Nat), Aut n ms ∧ (∀ x ∈ l, x < n) ∧ l.length < 64 ∧ i < ms.length ∧ ks = [.dat (sysD n ms), .dat (nt l), .dat (.int i)] ∧ P = A8.one (nt (led (ldAt ms i) l))
def R_couple_led (ks : List Ki) (P : Ki → Prop) : Prop := ∃ (n : Nat) (ms : List Mv) (l : List Nat) (i : Nat), Aut n ms ∧ (∀ x ∈ l, x < n) ∧ l.length < 64 ∧ i < ms.length ∧ ks = [.dat (sysD n ms), .dat (nt l), .dat (.int i)] ∧ P = A8.one (clD (led (ldAt ms i) l))
def R_all_couples (ks : List Ki) (P : Ki → Prop) : Prop := ∃ (n : Nat) (ms : List Mv), Aut n ms ∧ ks = [.dat (sysD n ms)] ∧ P = A8.one (.lst ((couples n).map pc))
theorem allB_ok {n : Nat} {ms : List Mv} (A : Aut n ms) : ∀ (r fd : List Nat), (∀ x ∈ r, x < ms.length) → (∀ x ∈ fd, x < n) → fd.length = n → (∀ x ∈ r.foldl (fun fd m => fd.map (go (ldAt ms m))) fd, x < n) ∧ (r.foldl (fun fd m => fd.map (go (ldAt ms m))) fd).length = n
  | [], fd, _, h, hl => ⟨h, hl⟩
  | m :: r, fd, hr, h, hl => by
    rw [List.foldl_cons]
    refine allB_ok A r _ (fun x hx => hr x (List.mem_cons_of_mem _ hx)) (fun x hx => ?_) (by rw [List.length_map]; exact hl)
    obtain ⟨y, hy, rfl⟩ := List.mem_map.mp hx
    obtain ⟨_, _, _, h1, h2⟩ := A.at (hr m List.mem_cons_self)
    exact (go_lt h1 h2 (h y hy)).1
theorem nat_within {x : Nat} {hi : Int} (h : (x : Int) ≤ hi) : (Dt.int (x : Int)).within 0 hi = true := decide_eq_true ⟨by omega, h⟩
theorem ed_lcN {elt tg iter : Expr} {scope : Scope} (j : Nat) (own : List (Str × Nat)) (l : List Nat) (g : Nat → Nat) (hi : IXl E f tg iter G (natsD l)) (hg : GX E (f.blk scope) tg (.one j)) (he : ∀ x ∈ l, ED E (f.blk scope) elt ((Tgt.one j).set (.int (x : Int)) (wipeK G (own.map (·.2)))) (.int (g x : Nat)))
    (hlen : l.length ≤ 1000000) (hsl : ∀ j' ∈ (Tgt.one j).slots, j' ∈ own.map (·.2) := by decide) (ok : blkC f.N f.sc scope own = true := by dsimp only [Fm.blk]; decide +kernel) (hs : ∀ (env : Env) x, foldedSetIterable iter env x = pure x := by intro _ _; rfl) :
    ED E f (.ListComp elt [⟨tg, iter, [], 0⟩] scope pos) G (.lst (natsD (l.map g))) := by
  refine ED.is (ed_lc (.one j) own l (fun s : Nat => .int (s : Int)) (fun s : Nat => .int (g s : Nat)) hi hg he hlen (fun _ _ => trivial) hsl ok hs) ?_
  unfold natsD
  rw [List.map_map]
  rfl
section
include T
theorem ed_leads {n : Nat} {ms : List Mv} {i : Nat} {p1 p2 : Pos} (A : Aut n ms) (hi : i < ms.length) (hs : ED E f a G (sysD n ms)) (hm : ED E f b G (.int (i : Int))) {k0 p3 p4} (hb : ∀ env : Env, attributeBase a "moves" env (eval a env) = eval a env := by intro _; rfl) (hp : PlainIx b := by intro _ _; rfl) :
    ED E f (.Subscript (.Subscript (.Attribute a "moves" p1) b p2) (.Constant (.int 1) k0 p3) p4) G (nt (ldAt ms i)) := by
  obtain ⟨m, h1, h2, h3, h4⟩ := A.at hi
  refine ed_ixT (l := [fr m.t m.b, nt m.ld]) (ed_ixT (ed_moves T.cl T.nMoves hs hb) hm (atI_at (x := m.d) (by rw [List.getElem?_map, h1]; rfl)) hp) ex_int ?_
  rw [← h2]
  rfl
theorem ok_check_row {fa : Addr} {fd : FuncData} (c3 : Cl E 3 "are_numbers" R_are_numbers) (F : Fun E.K "check_row" "check_row" s_check_row fa fd) : FnOk E.P E.w E.K E.mg E.base CX0 4 fa fd ["system", "row"] (spG E.K E.C R_check_row) := by
  refine fn_ok F c_check_row (fun ks P ⟨_, _, _, _, _, _, e, _⟩ => by rw [e]; rfl) (fun ks P ⟨n, ms, r, _, _, _, e, _⟩ => noOwn_dat [sysD n ms, nt r] e) fun hd ks P h => ?_
  obtain ⟨n, ms, r, A, hr, hx, rfl, rfl⟩ := h
  obtain ⟨t, ht⟩ := T.mRow
  have hc : ∀ x ∈ natsD r, x.cls ≠ "" := fun x hx => by
    obtain ⟨y, _, rfl⟩ := List.mem_map.mp hx
    exact cint
  have hlen : (natsD r).length = r.length := List.length_map ..
  have hlen2 : (ms.map Mv.d).length = ms.length := List.length_map ..
  refine sx_one (s1_if (td_not (td_val (ed_call c3 (ad_cons (ex_v 1) (ad_cons (ex_g (v := .int 400) (d := .int 400) ht ⟨t, rfl⟩ fun F => .int 400) (ad_cons (ed_sub (ed_len T.b (ed_moves T.cl T.nMoves (ex_v 0)) (.tup (ms.map Mv.d))) ex_int) ad_nil))) ⟨natsD r, 400, _, hc, by omega, rfl, rfl⟩))) (fun h => ?_) fun h => sx_nil rfl)
  rw [hlen, hlen2] at h
  have ha : ((natsD r).all fun x => x.within 0 ((ms.length : Int) - 1)) = true := by
    rw [List.all_eq_true]
    intro x hx'
    obtain ⟨y, hy, rfl⟩ := List.mem_map.mp hx'
    have := hx y hy
    exact nat_within (by omega)
  rw [ha, Bool.and_true, decide_eq_true (by omega)] at h
  cases h
theorem ok_all_behind {fa : Addr} {fd : FuncData} (F : Fun E.K "all_behind" "all_behind" s_all_behind fa fd) : FnOk E.P E.w E.K E.mg E.base CX0 1 fa fd ["system", "row"] (spG E.K E.C R_all_behind) := by
  refine fn_ok F c_all_behind (fun ks P ⟨_, _, _, _, _, _, e, _⟩ => by rw [e]; rfl) (fun ks P ⟨n, ms, r, _, _, _, e, _⟩ => noOwn_dat [sysD n ms, nt r] e) fun hd ks P h => ?_
  obtain ⟨n, ms, r, A, hr, hx, rfl, rfl⟩ := h
  have hn := A.n12
  refine sx_set 2 (ed_tupRange T.b (ed_many T.cl T.nMany (ex_v 0)) (by omega)) ?_
  refine sx_cons (s1_for (.one 3) r (fun m : Nat => .int (m : Int)) (fun i G' => ∃ x y z : Ki, G' = [.dat (sysD n ms), .dat (nt r), .dat (nt (allB ms n (r.take i))), x, y, z]) (ix_tupT (ex_v 1)) (gx_one 3) ⟨_, _, _, rfl⟩ ?_) ?_
  · rintro i m hi G' ⟨x, y, z, rfl⟩
    have hm : m < ms.length := hx m (List.mem_of_getElem? hi)
    obtain ⟨h1, h2⟩ := allB_ok A (r.take i) (List.range n) (fun x hx' => hx x (List.mem_of_mem_take hx')) (fun x hx' => List.mem_range.mp hx') (List.length_range)
    obtain ⟨_, _, _, g1, g2⟩ := A.at hm
    refine sx_set 4 (ed_leads T A hm (ex_v 0) (ex_v 3)) ?_
    refine sx_set 2 (ed_tuple T.b (ed_lcN 5 [("state", 5)] (allB ms n (r.take i)) (go (ldAt ms m)) (ix_tupT (ex_v 2)) (gx_one 5) (fun s hs => ?_) ?_)) ?_
    · exact ed_ixT (ex_v 4) (ex_v 5) (atI_go g1 g2 (h1 s hs))
    · show (allB ms n (r.take i)).length ≤ 1000000
      unfold allB
      omega
    · have e : allB ms n (r.take (i + 1)) = (allB ms n (r.take i)).map (go (ldAt ms m)) := by
        unfold allB
        rw [List.take_add_one, hi, List.foldl_append]
        rfl
      exact sx_nil ⟨_, _, _, by rw [e]; rfl⟩
  · rintro G' ⟨x, y, z, rfl⟩
    rw [List.take_length]
    exact sx_one (s1_ret (ex_v 2))
theorem ok_led_all {fa : Addr} {fd : FuncData} (c4 : Cl E 4 "check_row" R_check_row) (c1 : Cl E 1 "all_behind" R_all_behind) (F : Fun E.K "led_all" "led_all" s_led_all fa fd) : FnOk E.P E.w E.K E.mg E.base CX0 5 fa fd ["system", "row"] (spG E.K E.C R_all_behind) := by
  refine fn_ok F c_led_all (fun ks P ⟨_, _, _, _, _, _, e, _⟩ => by rw [e]; rfl) (fun ks P ⟨n, ms, r, _, _, _, e, _⟩ => noOwn_dat [sysD n ms, nt r] e) fun hd ks P h => ?_
  obtain ⟨n, ms, r, A, hr, hx, rfl, rfl⟩ := h
  refine sx_cons (s1_expr (ed_call c4 (ad_cons (ex_v 0) (ad_cons (ex_v 1) ad_nil)) ⟨n, ms, r, A, hr, hx, rfl, rfl⟩)) ?_
  rintro G' rfl
  exact sx_one (s1_ret (ed_call c1 (ad_cons (ex_v 0) (ad_cons (ex_v 1) ad_nil)) ⟨n, ms, r, A, hr, hx, rfl, rfl⟩))
theorem ok_lot_of {fa : Addr} {fd : FuncData} (F : Fun E.K "lot_of" "lot_of" s_lot_of fa fd) : FnOk E.P E.w E.K E.mg E.base CX0 1 fa fd ["states"] (spG E.K E.C R_lot_of) := by
  refine fn_ok F c_lot_of (fun ks P ⟨_, _, _, e, _⟩ => by rw [e]; rfl) (fun ks P ⟨l, _, _, e, _⟩ => noOwn_dat [.lst (natsD l)] e) fun hd ks P h => ?_
  obtain ⟨l, h12, hl, rfl, rfl⟩ := h
  exact sx_one (s1_ret (ed_tuple T.b (ed_sortedSet T.b (ex_v 0) (.inl rfl) h12 hl)))
theorem ok_lot_led {fa : Addr} {fd : FuncData} (c1 : Cl E 1 "lot_of" R_lot_of) (F : Fun E.K "lot_led" "lot_led" s_lot_led fa fd) : FnOk E.P E.w E.K E.mg E.base CX0 2 fa fd ["system", "lot", "move"] (spG E.K E.C R_lot_led) := by
  refine fn_ok F c_lot_led (fun ks P ⟨_, _, _, _, _, _, _, _, e, _⟩ => by rw [e]; rfl) (fun ks P ⟨n, ms, l, i, _, _, _, _, e, _⟩ => noOwn_dat [sysD n ms, nt l, .int i] e) fun hd ks P h => ?_
  obtain ⟨n, ms, l, i, A, hl, hl64, hi, rfl, rfl⟩ := h
  have hn := A.n12
  obtain ⟨_, _, _, g1, g2⟩ := A.at hi
  refine sx_set 3 (ed_leads T A hi (ex_v 0) (ex_v 2)) ?_
  refine sx_one (s1_ret (ed_call c1 (ad_cons (ed_lcN 4 [("state", 4)] l (go (ldAt ms i)) (ix_tupT (ex_v 1)) (gx_one 4) (fun s hs => ?_) (by omega)) ad_nil) ⟨l.map (go (ldAt ms i)), ?_, by rw [List.length_map]; exact hl64, rfl, rfl⟩))
  · exact ed_ixT (ex_v 3) (ex_v 4) (atI_go g1 g2 (hl s hs))
  · intro x hx
    obtain ⟨y, hy, rfl⟩ := List.mem_map.mp hx
    have := (go_lt g1 g2 (hl y hy)).1
    omega
theorem ok_couple_led {fa : Addr} {fd : FuncData} (c2 : Cl E 2 "lot_led" R_lot_led) (F : Fun E.K "couple_led" "couple_led" s_couple_led fa fd) : FnOk E.P E.w E.K E.mg E.base CX0 3 fa fd ["system", "couple", "move"] (spG E.K E.C R_couple_led) := by
  refine fn_ok F c_couple_led (fun ks P ⟨_, _, _, _, _, _, _, _, e, _⟩ => by rw [e]; rfl) (fun ks P ⟨n, ms, l, i, _, _, _, _, e, _⟩ => noOwn_dat [sysD n ms, nt l, .int i] e) fun hd ks P h => ?_
  obtain ⟨n, ms, l, i, A, hl, hl64, hi, rfl, rfl⟩ := h
  refine sx_set 3 (ed_call c2 (ad_cons (ex_v 0) (ad_cons (ex_v 1) (ad_cons (ex_v 2) ad_nil))) ⟨n, ms, l, i, A, hl, hl64, hi, rfl, rfl⟩) ?_
  have hlen : (natsD (led (ldAt ms i) l)).length = (led (ldAt ms i) l).length := List.length_map ..
  refine sx_one (s1_ret (ex_if (td_eq (ed_len T.b (ex_v 3) (.tup (natsD (led (ldAt ms i) l)))) ex_int) (fun h => ED.is (ex_v 3) ?_) (fun h => ED.is ex_non ?_)))
  · rw [hlen] at h
    have h2 : (led (ldAt ms i) l).length = 2 := by have := of_decide_eq_true h.symm; omega
    unfold clD
    rw [if_pos h2]
  · rw [hlen] at h
    have h2 : ¬ (led (ldAt ms i) l).length = 2 := fun z => by
      rw [z] at h
      cases h
    unfold clD
    rw [if_neg h2]
theorem ok_all_couples {fa : Addr} {fd : FuncData} (F : Fun E.K "all_couples" "all_couples" s_all_couples fa fd) : FnOk E.P E.w E.K E.mg E.base CX0 1 fa fd ["system"] (spG E.K E.C R_all_couples) := by
  refine fn_ok F c_all_couples (fun ks P ⟨_, _, _, e, _⟩ => by rw [e]; rfl) (fun ks P ⟨n, ms, _, e, _⟩ => noOwn_dat [sysD n ms] e) fun hd ks P h => ?_
  obtain ⟨n, ms, A, rfl, rfl⟩ := h
  have hn := A.n12
  refine sx_one (s1_ret (ED.is (ed_lc2 1 2 [("other", 1), ("one", 2)] [2] (List.range n) (fun o => List.range o) (fun o : Nat => .int (o : Int)) (fun _ (x : Nat) => .int (x : Int)) (fun o x => pc (x, o)) (ixl_range T.b (ed_many T.cl T.nMany (ex_v 0)) (by omega)) (gx_one 1)
    (fun o ho => ixl_range T.b (ex_v 1) (by have := List.mem_range.mp ho; omega)) (gx_one 2) (fun o ho x hx => ed_tup (ds := [.int (x : Int), .int (o : Int)]) (ad_cons (ex_v 2) (ad_cons (ex_v 1) ad_nil))) ?_) ?_))
  · have e : ∀ m : Nat, ((List.range m).flatMap fun o => (List.range o).map fun x => pc (x, o)).length ≤ m * m := fun m => by
      induction m with
      | zero => exact Nat.le_refl _
      | succ m ih =>
        rw [List.range_succ, List.flatMap_append, List.length_append]
        simp only [List.flatMap_cons, List.flatMap_nil, List.append_nil, List.length_map, List.length_range]
        have : (m + 1) * (m + 1) = m * m + 2 * m + 1 := by simp [Nat.mul_add, Nat.add_mul]; omega
        omega
    have h1 := e n
    have h2 : n * n ≤ 12 * 12 := Nat.mul_le_mul hn hn
    omega
  · unfold couples
    rw [List.map_flatMap]
    congr 1
    congr 1
    funext o
    rw [List.map_map]
    rfl
end
end A8
set_option Elab.async false
set_option linter.all false
set_option maxRecDepth 100000
set_option maxHeartbeats 1000000
namespace A8
open PySem PySem.Spec PyProof.Rows L2
variable {E : En} (T : Tx E) {f : Fm} {G : List Ki} {e a b c : Expr} {pos : Pos}
/-! ### tuples of naturals as data -/
def pyN (a : List Nat) : List PyData := a.map fun n : Nat => .int (n : Int)
theorem pyL_nats : ∀ a : List Nat, Dt.pyL (natsD a) = pyN a
  | [] => by rw [natsD, List.map_nil, Dt.pyL]; rfl
  | n :: a => by
    show Dt.pyL (.int (n : Int) :: natsD a) = _
    rw [Dt.pyL, pyL_nats a, Dt.py]
    rfl
theorem py_nt (a : List Nat) : (nt a).py = .tuple (pyN a) := by
  rw [nt_def, Dt.py, pyL_nats]
theorem eqv_pyN : ∀ a b : List Nat, PyData.eqvAll (pyN a) (pyN b) = decide (a = b)
  | [], [] => by simp [pyN, PyData.eqvAll]
  | [], _ :: _ => by simp [pyN, PyData.eqvAll]
  | _ :: _, [] => by simp [pyN, PyData.eqvAll]
  | n :: a, m :: b => by
    show PyData.eqvAll (.int (n : Int) :: pyN a) (.int (m : Int) :: pyN b) = _
    rw [PyData.eqvAll, eqv_pyN a b, PyData.eqv, Bool.eq_iff_iff, Bool.and_eq_true, decide_eq_true_eq, decide_eq_true_eq, beq_iff_eq, List.cons.injEq]
    constructor
    · rintro ⟨h1, h2⟩
      exact ⟨by omega, h2⟩
    · rintro ⟨h1, h2⟩
      exact ⟨by omega, h2⟩
theorem eqv_nt (a b : List Nat) : PyData.eqv (nt a).py (nt b).py = decide (a = b) := by
  rw [py_nt, py_nt, PyData.eqv, eqv_pyN]
theorem pl_nt (a : List Nat) : (nt a).pl = true := by
  rw [nt_def, Dt.pl, Dt.plL_eq, List.all_eq_true]
  intro x hx
  obtain ⟨n, _, rfl⟩ := List.mem_map.mp hx
  rw [Dt.pl]
theorem lay_pyN : ∀ a : List Nat, PyData.canLayAll0 (pyN a) = true
  | [] => by simp [pyN, PyData.canLayAll0]
  | n :: a => by
    show PyData.canLayAll0 (.int (n : Int) :: pyN a) = true
    rw [PyData.canLayAll0, lay_pyN a, PyData.canLay0]
    rfl
theorem depth_pyN (a : List Nat) : PyData.depthAll (pyN a) = 0 := by
  have := PySem.W.depth_ints (a.map fun n : Nat => (n : Int))
  rw [List.map_map] at this
  exact this
theorem depth_nt (a : List Nat) : (nt a).py.depth = 1 := by
  rw [py_nt, PyData.depth, depth_pyN]
theorem shaped_nt (a : List Nat) : SeqAt.shaped (nt a).py = true := by
  unfold SeqAt.shaped
  rw [depth_nt, py_nt, PyData.canLay0, lay_pyN]
  rfl
theorem shaped_non : SeqAt.shaped Dt.non.py = true := by
  rw [Dt.py]
  decide +kernel
theorem pl_non : Dt.non.pl = true := by rw [Dt.pl]
theorem pl_nts (l : List (List Nat)) : Dt.plL (l.map nt) = true := by
  rw [Dt.plL_eq, List.all_eq_true]
  intro x hx
  obtain ⟨a, _, rfl⟩ := List.mem_map.mp hx
  exact pl_nt a
theorem lay_nts : ∀ l : List (List Nat), PyData.canLayAll0 (Dt.pyL (l.map nt)) = true ∧ PyData.depthAll (Dt.pyL (l.map nt)) ≤ 1
  | [] => by rw [List.map_nil, Dt.pyL, PyData.canLayAll0, PyData.depthAll]; exact ⟨rfl, Nat.zero_le _⟩
  | a :: l => by
    obtain ⟨h1, h2⟩ := lay_nts l
    rw [List.map_cons, Dt.pyL, PyData.canLayAll0, h1, py_nt, PyData.canLay0, lay_pyN, PyData.depthAll, PyData.depth, depth_pyN]
    refine ⟨rfl, ?_⟩
    omega
theorem shaped_nts (l : List (List Nat)) : SeqAt.shaped (Dt.tup (l.map nt)).py = true := by
  obtain ⟨h1, h2⟩ := lay_nts l
  unfold SeqAt.shaped
  rw [Dt.py, PyData.canLay0, h1, PyData.depth]
  simp
  omega
theorem inD_nts (t : List Nat) (l : List (List Nat)) : inD (nt t) (l.map nt) = decide (t ∈ l) := by
  unfold inD
  rw [List.any_map, Bool.eq_iff_iff, List.any_eq_true, decide_eq_true_eq]
  constructor
  · rintro ⟨x, hx, h⟩
    have h' : PyData.eqv (nt x).py (nt t).py = true := h
    rw [eqv_nt, decide_eq_true_eq] at h'
    rwa [← h']
  · intro h
    exact ⟨t, h, by show PyData.eqv (nt t).py (nt t).py = true; rw [eqv_nt]; exact decide_eq_true rfl⟩
theorem inD_non (l : List (List Nat)) : inD .non (l.map nt) = false := by
  unfold inD
  rw [List.any_map, Bool.eq_false_iff]
  intro h
  obtain ⟨x, hx, h⟩ := List.any_eq_true.mp h
  have h' : PyData.eqv (nt x).py Dt.non.py = true := h
  rw [py_nt, Dt.py, PyData.eqv] at h'
  · cases h'
  all_goals (intros; simp_all)
def pl2 (p : Nat × Nat) : List Nat := [p.1, p.2]
theorem map_pc (ps : List (Nat × Nat)) : ps.map pc = (ps.map pl2).map nt := by rw [List.map_map]; rfl
theorem pl2_inj {p q : Nat × Nat} (h : pl2 p = pl2 q) : p = q := by
  unfold pl2 at h
  have h1 := (List.cons.inj h).1
  have h2 := (List.cons.inj (List.cons.inj h).2).1
  exact Prod.ext h1 h2
/-- the end t stands in left -/
def inL (t : List Nat) (ps : List (Nat × Nat)) : Bool := decide (t ∈ ps.map pl2)
theorem inD_clD (t : List Nat) (ps : List (Nat × Nat)) : inD (clD t) (ps.map pc) = inL t ps := by
  unfold clD inL
  rw [map_pc]
  by_cases h : t.length = 2
  · rw [if_pos h, inD_nts]
  · rw [if_neg h, inD_non]
    refine (decide_eq_false fun z => ?_).symm
    obtain ⟨p, _, e⟩ := List.mem_map.mp z
    rw [← e] at h
    exact h rfl
theorem pl_clD (t : List Nat) : (clD t).pl = true ∧ SeqAt.shaped (clD t).py = true := by
  unfold clD
  split
  · exact ⟨pl_nt _, shaped_nt _⟩
  · exact ⟨pl_non, shaped_non⟩
/-! ### books -/
def rising : List (Nat × Nat) → Bool
  | p :: q :: ps => HT.lexLt [(p.1 : Int), (p.2 : Int)] [(q.1 : Int), (q.2 : Int)] && rising (q :: ps)
  | _ => true
theorem rising_iff : ∀ ps : List (Nat × Nat), (((List.range (ps.length - 1)).map fun i => HT.lexLt ((pl2 (ps.getD i (0, 0))).map fun n : Nat => (n : Int)) ((pl2 (ps.getD (i + 1) (0, 0))).map fun n : Nat => (n : Int))).all id) = rising ps
  | [] => rfl
  | [_] => rfl
  | p :: q :: ps => by
    rw [rising, ← rising_iff (q :: ps)]
    show (((List.range (ps.length + 1)).map _).all id) = _
    rw [List.range_succ_eq_map, List.map_cons, List.all_cons, List.map_map]
    rfl
def R_is_rising (ks : List Ki) (P : Ki → Prop) : Prop := ∃ ps : List (Nat × Nat), ps.length ≤ 1000 ∧ 1 ≤ ps.length ∧ ks = [.dat (.tup (ps.map pc))] ∧ P = A8.one (.bl (rising ps))
def isCouple (n : Nat) : Dt → Bool
  | .tup [.int a, .int b] => decide (0 ≤ a ∧ a ≤ (n : Int) - 1) && decide (0 ≤ b ∧ b ≤ (n : Int) - 1) && decide (a < b)
  | _ => false
def R_is_couple (ks : List Ki) (P : Ki → Prop) : Prop := ∃ (n : Nat) (ms : List Mv) (d : Dt), Aut n ms ∧ d.cls ≠ "" ∧ (∀ l, d = .tup l → ∀ x ∈ l, x.cls ≠ "") ∧ d ≠ .tuq [] ∧ (∀ l, d ≠ .tuq l) ∧ ks = [.dat (sysD n ms), .dat d] ∧ P = A8.one (.bl (isCouple n d))
def ltD : Dt → Dt → Bool
  | .int a, .int b => decide (a < b)
  | _, _ => false
theorem isCouple_two {n : Nat} {x y : Dt} : isCouple n (.tup [x, y]) = (x.within 0 ((n : Int) - 1) && y.within 0 ((n : Int) - 1) && ltD x y) := by
  cases x <;> cases y <;> simp [isCouple, Dt.within, ltD]
section
include T
theorem ok_is_rising {fa : Addr} {fd : FuncData} (F : Fun E.K "is_rising" "is_rising" s_is_rising fa fd) : FnOk E.P E.w E.K E.mg E.base CX0 1 fa fd ["things"] (spG E.K E.C R_is_rising) := by
  refine fn_ok F c_is_rising (fun ks P ⟨_, _, _, e, _⟩ => by rw [e]; rfl) (fun ks P ⟨ps, _, _, e, _⟩ => noOwn_dat [.tup (ps.map pc)] e) fun hd ks P h => ?_
  obtain ⟨ps, h1, h0, rfl, rfl⟩ := h
  have hlen : (ps.map pc).length = ps.length := List.length_map ..
  have at1 : ∀ i, i < ps.length → atI (ps.map pc) (i : Int) = some (pc (ps.getD i (0, 0))) := fun i hi => by
    refine atI_at ?_
    rw [List.getElem?_map, List.getElem?_eq_getElem hi, List.getD_eq_getElem?_getD, List.getElem?_eq_getElem hi]
    rfl
  refine sx_one (s1_ret (ED.is (ed_all T.b (bs := (List.range (ps.length - 1)).map fun i => HT.lexLt ((pl2 (ps.getD i (0, 0))).map fun n : Nat => (n : Int)) ((pl2 (ps.getD (i + 1) (0, 0))).map fun n : Nat => (n : Int)))
    (ED.is (ed_lc (.one 1) [("at", 1)] (List.range (ps.length - 1)) (fun i : Nat => .int (i : Int)) (fun i => .bl (HT.lexLt ((pl2 (ps.getD i (0, 0))).map fun n : Nat => (n : Int)) ((pl2 (ps.getD (i + 1) (0, 0))).map fun n : Nat => (n : Int))))
      (ixl_range T.b (ED.is (ed_sub (ed_len T.b (ex_v 0) (.tup (ps.map pc))) ex_int) (by rw [hlen]; congr 1; omega)) (by omega)) (gx_one 1) (fun i hi => ?_) (by rw [List.length_range]; omega)) ?_)) (by rw [rising_iff])))
  · have hi' := List.mem_range.mp hi
    refine ed_ltT (ed_ixT (ex_v 0) (ex_v 1) ?_) (ed_ixT (ex_v 0) (ed_add (ex_v 1) ex_int) ?_)
    · rw [at1 i (by omega)]
      rw [List.map_map]
      rfl
    · rw [show ((i : Int) + 1) = ((i + 1 : Nat) : Int) by omega, at1 (i + 1) (by omega)]
      rw [List.map_map]
      rfl
  · rw [List.map_map]
    rfl
theorem ok_is_couple {fa : Addr} {fd : FuncData} (c2 : Cl E 2 "is_within" R_is_within) (F : Fun E.K "is_couple" "is_couple" s_is_couple fa fd) : FnOk E.P E.w E.K E.mg E.base CX0 3 fa fd ["system", "thing"] (spG E.K E.C R_is_couple) := by
  refine fn_ok F c_is_couple (fun ks P ⟨_, _, _, _, _, _, _, _, e, _⟩ => by rw [e]; rfl) (fun ks P ⟨n, ms, d, _, _, _, _, _, e, _⟩ => noOwn_dat [sysD n ms, d] e) fun hd ks P h => ?_
  obtain ⟨n, ms, d, A, hc, hx, _, hq, rfl, rfl⟩ := h
  by_cases ht : ∃ l, d = .tup l
  · obtain ⟨l, rfl⟩ := ht
    have hx := hx l rfl
    refine sx_cons (N1 := fun G' => G' = [.dat (sysD n ms), .dat (.tup l), .un] ∧ l.length = 2) (s1_if (WX.tx (wd_or (td_not (td_val (ed_isaTup T.b (ex_v 1) hc))) fun _ => wd_or1 (td_ne (ed_len T.b (ex_v 1) (.tup l)) ex_int))) (fun h => ?_) fun h => sx_nil ⟨rfl, ?_⟩) ?_
    · refine sx_one (s1_ret (ED.is ex_bl ?_))
      have h2 : l.length ≠ 2 := fun z => by
        rw [z] at h
        simp [Dt.isa, isaC, Dt.cls] at h
      have : isCouple n (.tup l) = false := by
        match l, h2 with
        | [], _ => rfl
        | [x], _ => cases x <;> rfl
        | [x, y], h => exact absurd rfl h
        | x :: y :: z :: l, _ => cases x <;> first | rfl | (cases y <;> rfl)
      rw [this]
    · simp [Dt.isa, isaC, Dt.cls] at h
      omega
    · rintro G' ⟨rfl, h2⟩
      match l, h2, hx with
      | [x, y], _, hx =>
        have hx1 := hx x List.mem_cons_self
        have hy1 := hx y (List.mem_cons_of_mem _ List.mem_cons_self)
        rw [isCouple_two]
        refine sx_one (s1_ret (ED.is (ed_and (y := ltD x y) (ed_all T.b (bs := [x.within 0 ((n : Int) - 1), y.within 0 ((n : Int) - 1)]) (ED.is (ed_lc (.one 2) [("state", 2)] [x, y] id (fun z => .bl (z.within 0 ((n : Int) - 1))) (by rw [List.map_id]; exact ix_tupT (ex_v 1)) (gx_one 2) (fun z hz => ?_) (by simp)) rfl)) fun hb => ed_one ?_) ?_))
        · exact ed_call c2 (ad_cons (ex_v 2) (ad_cons ex_int (ad_cons (ed_sub (ed_many T.cl T.nMany (ex_v 0)) ex_int) ad_nil))) ⟨z, 0, _, hx z hz, rfl, rfl⟩
        · simp at hb
          cases x with
          | int i =>
            cases y with
            | int j => exact ed_lt (ed_ixT (ex_v 1) ex_int rfl) (ed_ixT (ex_v 1) ex_int rfl)
            | _ => simp [Dt.within] at hb
          | _ => simp [Dt.within] at hb
        · simp
  · have hn : d.isa "tuple" = false := by
      cases d with
      | tup l => exact absurd ⟨l, rfl⟩ ht
      | tuq l => exact absurd rfl (hq l)
      | _ => first | rfl | exact absurd rfl hc
    have hi : isCouple n d = false := by
      cases d with
      | tup l => exact absurd ⟨l, rfl⟩ ht
      | _ => rfl
    rw [hi]
    refine sx_cons (N1 := fun _ => False) (s1_if (WX.tx (wd_or (y := false) (td_not (td_val (ed_isaTup T.b (ex_v 1) hc))) fun z => by rw [hn] at z; cases z)) (fun h => sx_one (s1_ret ex_bl)) (fun h => by rw [hn] at h; cases h)) (fun _ h => h.elim)
end
end A8
set_option Elab.async false
set_option linter.all false
set_option maxRecDepth 100000
set_option maxHeartbeats 1000000
namespace A8
open PySem PySem.Spec PyProof.Rows L2
variable {E : En} (T : Tx E) {f : Fm} {G : List Ki} {e a b c : Expr} {pos : Pos}
def toP : Dt → Nat × Nat
  | .tup [.int a, .int b] => (a.toNat, b.toNat)
  | _ => (0, 0)
def closed (ms : List Mv) (ps : List (Nat × Nat)) : Bool := ps.all fun p => (List.range ms.length).all fun m => inL (led (ldAt ms m) (pl2 p)) ps
def isBook (n : Nat) (ms : List Mv) : Dt → Bool
  | .tup l => !l.isEmpty && l.all (isCouple n) && rising (l.map toP) && closed ms (l.map toP)
  | _ => false
theorem isBook_tup {n : Nat} {ms : List Mv} {l : List Dt} : isBook n ms (.tup l) = (!l.isEmpty && l.all (isCouple n) && rising (l.map toP) && closed ms (l.map toP)) := rfl
theorem len_fm {α β : Type} {f : α → List β} {k : Nat} : ∀ {l : List α}, (∀ x ∈ l, (f x).length = k) → (l.flatMap f).length = l.length * k
  | [], _ => by simp
  | x :: l, h => by
    rw [List.flatMap_cons, List.length_append, h x List.mem_cons_self, len_fm fun y hy => h y (List.mem_cons_of_mem _ hy), List.length_cons, Nat.add_mul, Nat.one_mul, Nat.add_comm]
def kb (G : List Ki) (i : Nat) : Bool := match G[i]? with
  | some (Ki.dat (Dt.bl b)) => b
  | _ => false
theorem toP_ok {n : Nat} {d : Dt} (h : isCouple n d = true) : d = pc (toP d) ∧ (toP d).1 < (toP d).2 ∧ (toP d).2 < n := by
  match d, h with
  | .tup [.int a, .int b], h =>
    simp [isCouple] at h
    obtain ⟨⟨⟨h1, h2⟩, h3, h4⟩, h5⟩ := h
    obtain ⟨x, rfl⟩ := Int.eq_ofNat_of_zero_le h1
    obtain ⟨y, rfl⟩ := Int.eq_ofNat_of_zero_le h3
    refine ⟨rfl, ?_, ?_⟩
    · show (x : Int).toNat < (y : Int).toNat
      omega
    · show (y : Int).toNat < n
      omega
theorem toPs_ok {n : Nat} : ∀ {l : List Dt}, l.all (isCouple n) = true → l = (l.map toP).map pc ∧ ∀ p ∈ l.map toP, p.1 < p.2 ∧ p.2 < n
  | [], _ => ⟨rfl, fun p hp => by cases hp⟩
  | d :: l, h => by
    rw [List.all_cons, Bool.and_eq_true] at h
    obtain ⟨h1, h2, h3⟩ := toP_ok h.1
    obtain ⟨i1, i2⟩ := toPs_ok h.2
    refine ⟨?_, fun p hp => ?_⟩
    · rw [List.map_cons, List.map_cons, ← h1, ← i1]
    · rw [List.map_cons] at hp
      rcases List.mem_cons.mp hp with e | hp
      · rw [e]; exact ⟨h2, h3⟩
      · exact i2 p hp
def R_is_book (ks : List Ki) (P : Ki → Prop) : Prop := ∃ (n : Nat) (ms : List Mv) (d : Dt), Aut n ms ∧ d.cls ≠ "" ∧ (∀ l, d = .tup l → l.length ≤ 1000 ∧ ∀ x ∈ l, x.cls ≠ "" ∧ (∀ m, x = .tup m → ∀ y ∈ m, y.cls ≠ "") ∧ ∀ m, x ≠ .tuq m) ∧ (∀ l, d ≠ .tuq l) ∧ ks = [.dat (sysD n ms), .dat d] ∧ P = A8.one (.bl (isBook n ms d))
/-! ### falling lists of couples -/
def okp (ms : List Mv) (left : List (Nat × Nat)) (p : Nat × Nat) : Bool := (List.range ms.length).all fun m => inL (led (ldAt ms m) (pl2 p)) left
def fall (ms : List Mv) (left : List (Nat × Nat)) : List (Nat × Nat) := left.filter (okp ms left)
inductive Falls (ms : List Mv) : List (Nat × Nat) → List (Nat × Nat) → Prop where
  | refl (l : List (Nat × Nat)) : Falls ms l l
  | step {l l' : List (Nat × Nat)} : Falls ms l l' → Falls ms l (fall ms l')
theorem Falls.trans {ms : List Mv} {a b c : List (Nat × Nat)} (h : Falls ms a b) (g : Falls ms b c) : Falls ms a c := by
  induction g with
  | refl => exact h
  | step _ ih => exact .step ih
theorem Falls.fixed {ms : List Mv} {a b : List (Nat × Nat)} (h : Falls ms a b) (hf : fall ms a = a) : b = a := by
  induction h with
  | refl => rfl
  | step _ ih => rw [ih, hf]
theorem Falls.cases2 {ms : List Mv} {a b c : List (Nat × Nat)} (h : Falls ms a b) (g : Falls ms a c) : Falls ms b c ∨ Falls ms c b := by
  induction h with
  | refl => exact .inl g
  | @step b' h' ih =>
    rcases ih with i | i
    · have : c = b' ∨ Falls ms (fall ms b') c := by
        clear g
        induction i with
        | refl => exact .inl rfl
        | step q ih =>
          rcases ih with e | e
          · rw [e]; exact .inr (.refl _)
          · exact .inr (.step e)
      rcases this with e | e
      · rw [e]; exact .inr (.step (.refl _))
      · exact .inl e
    · exact .inr (.step i)
theorem Falls.uniq {ms : List Mv} {a b c : List (Nat × Nat)} (h : Falls ms a b) (hb : fall ms b = b) (g : Falls ms a c) (hc : fall ms c = c) : b = c := by
  rcases h.cases2 g with i | i
  · exact (i.fixed hb).symm
  · exact i.fixed hc
theorem falls_ex (ms : List Mv) : ∀ (k : Nat) (a : List (Nat × Nat)), a.length ≤ k → ∃ L, Falls ms a L ∧ fall ms L = L
  | 0, a, h => ⟨a, .refl _, by rw [List.eq_nil_of_length_eq_zero (by omega : a.length = 0)]; rfl⟩
  | k + 1, a, h => by
    by_cases e : fall ms a = a
    · exact ⟨a, .refl _, e⟩
    · have hl : (fall ms a).length < a.length := by
        rcases Nat.lt_or_ge (fall ms a).length a.length with q | q
        · exact q
        · exact absurd (List.filter_sublist.eq_of_length (Nat.le_antisymm (List.length_filter_le _ _) q)) e
      obtain ⟨L, h1, h2⟩ := falls_ex ms k (fall ms a) (by omega)
      exact ⟨L, (Falls.step (.refl _)).trans h1, h2⟩
noncomputable def gfp (n : Nat) (ms : List Mv) : List (Nat × Nat) := (falls_ex ms _ (couples n) (Nat.le_refl _)).choose
theorem gfp_spec (n : Nat) (ms : List Mv) : Falls ms (couples n) (gfp n ms) ∧ fall ms (gfp n ms) = gfp n ms := (falls_ex ms _ (couples n) (Nat.le_refl _)).choose_spec
theorem gfp_uniq {n : Nat} {ms : List Mv} {L : List (Nat × Nat)} (h : Falls ms (couples n) L) (hf : fall ms L = L) : L = gfp n ms := h.uniq hf (gfp_spec n ms).1 (gfp_spec n ms).2
def R_apart_there (ks : List Ki) (P : Ki → Prop) : Prop := ∃ (n : Nat) (ms : List Mv), Aut n ms ∧ ks = [.dat (sysD n ms)] ∧ P = A8.one (.lst ((gfp n ms).map pc))
def R_apart (ks : List Ki) (P : Ki → Prop) : Prop := ∃ (n : Nat) (ms : List Mv), Aut n ms ∧ ks = [.dat (sysD n ms)] ∧ P = A8.one (.tup (((gfp n ms).map pc).mergeSort dle))
theorem couples_lt {n : Nat} : ∀ p ∈ couples n, p.1 < p.2 ∧ p.2 < n := fun p hp => by
  obtain ⟨o, ho, h⟩ := List.mem_flatMap.mp hp
  obtain ⟨x, hx, rfl⟩ := List.mem_map.mp h
  exact ⟨List.mem_range.mp hx, List.mem_range.mp ho⟩
theorem couples_len : ∀ m : Nat, (couples m).length ≤ m * m
  | 0 => Nat.le_refl _
  | m + 1 => by
    have ih := couples_len m
    unfold couples at ih ⊢
    rw [List.range_succ, List.flatMap_append, List.length_append]
    simp only [List.flatMap_cons, List.flatMap_nil, List.append_nil, List.length_map, List.length_range]
    have : (m + 1) * (m + 1) = m * m + 2 * m + 1 := by simp [Nat.mul_add, Nat.add_mul]; omega
    omega
theorem Falls.sub {ms : List Mv} {l l' : List (Nat × Nat)} (h : Falls ms l l') : l'.Sublist l := by
  induction h with
  | refl => exact List.Sublist.refl _
  | step _ ih => exact List.filter_sublist.trans ih
theorem falls_len {n : Nat} {ms : List Mv} (hn : n ≤ 12) {L : List (Nat × Nat)} (h : Falls ms (couples n) L) : L.length ≤ 144 ∧ ∀ p ∈ L, p.1 < p.2 ∧ p.2 < n := by
  have h1 := h.sub.length_le
  have h2 := couples_len n
  have h3 : n * n ≤ 12 * 12 := Nat.mul_le_mul hn hn
  exact ⟨by omega, fun p hp => couples_lt p (h.sub.subset hp)⟩
theorem canSort_nts {l : List (List Nat)} (h : ∀ a ∈ l, a ≠ []) : CanSort ((l.map nt).map Dt.py) := by
  refine ⟨fun d hd d' hd' => ?_, Or.inl (Or.inl ?_)⟩
  · obtain ⟨x, hx, rfl⟩ := List.mem_map.mp hd
    obtain ⟨y, hy, rfl⟩ := List.mem_map.mp hd'
    obtain ⟨a, _, rfl⟩ := List.mem_map.mp hx
    obtain ⟨b, _, rfl⟩ := List.mem_map.mp hy
    rw [py_nt, py_nt, PySem.W.alike]
    have := PySem.W.alike_ints (a.map fun n : Nat => (n : Int)) (b.map fun n : Nat => (n : Int))
    rw [List.map_map, List.map_map] at this
    exact this
  · intro d hd
    obtain ⟨x, hx, rfl⟩ := List.mem_map.mp hd
    obtain ⟨a, ha, rfl⟩ := List.mem_map.mp hx
    rw [py_nt]
    cases a with
    | nil => exact absurd rfl (h _ ha)
    | cons n a => exact ⟨.int n, pyN a, rfl⟩
section
include T
theorem ok_is_book {fa : Addr} {fd : FuncData} (c3 : Cl E 3 "is_couple" R_is_couple) (cr : Cl E 1 "is_rising" R_is_rising) (cl : Cl E 3 "couple_led" R_couple_led) (F : Fun E.K "is_book" "is_book" s_is_book fa fd) : FnOk E.P E.w E.K E.mg E.base CX0 4 fa fd ["system", "thing"] (spG E.K E.C R_is_book) := by
  refine fn_ok F c_is_book (fun ks P ⟨_, _, _, _, _, _, _, e, _⟩ => by rw [e]; rfl) (fun ks P ⟨n, ms, d, _, _, _, _, e, _⟩ => noOwn_dat [sysD n ms, d] e) fun hd ks P h => ?_
  obtain ⟨n, ms, d, A, hc, hx, hq, rfl, rfl⟩ := h
  by_cases ht : ∃ l, d = .tup l
  · obtain ⟨l, rfl⟩ := ht
    obtain ⟨hl, hx⟩ := hx l rfl
    refine sx_cons (N1 := fun G' => G' = [.dat (sysD n ms), .dat (.tup l), .un, .un, .un] ∧ l ≠ [] ∧ l.all (isCouple n) = true) (s1_if (WX.tx (wd_or (td_not (td_val (ed_isaTup T.b (ex_v 1) hc))) fun _ => wd_or (td_eq (ed_len T.b (ex_v 1) (.tup l)) ex_int) fun _ => wd_or1 (td_not (td_val (ed_all T.b (bs := l.map (isCouple n))
      (ED.is (ed_lc (.one 3) [("couple", 3)] l id (fun z => .bl (isCouple n z)) (by rw [List.map_id]; exact ix_tupT (ex_v 1)) (gx_one 3) (fun z hz => ?_) (by omega)) (by rw [List.map_map]; rfl))))))) (fun h => ?_) fun h => sx_nil ⟨rfl, ?_⟩) ?_
    · exact ed_call c3 (ad_cons (ex_v 0) (ad_cons (ex_v 3) ad_nil)) ⟨n, ms, z, A, (hx z hz).1, (hx z hz).2.1, (hx z hz).2.2 [], (hx z hz).2.2, rfl, rfl⟩
    · refine sx_one (s1_ret (ED.is ex_bl ?_))
      have : isBook n ms (.tup l) = false := by
        rw [isBook_tup]
        cases l with
        | nil => rfl
        | cons x l =>
          simp [Dt.isa, isaC, Dt.cls, List.all_map] at h
          have h2 : (x :: l).all (isCouple n) = false := by
            rw [Bool.eq_false_iff]
            intro z
            rw [List.all_eq_true] at z
            rcases h with h | h
            · omega
            · rcases h with h | ⟨y, hy, h⟩
              · rw [z x List.mem_cons_self] at h; cases h
              · rw [z y (List.mem_cons_of_mem _ hy)] at h; cases h
          rw [h2, Bool.and_false, Bool.false_and, Bool.false_and]
      rw [this]
    · simp [Dt.isa, isaC, Dt.cls, List.all_map] at h
      refine ⟨fun z => by rw [z] at h; simp at h, ?_⟩
      rw [List.all_eq_true]
      exact h.2
    · rintro G' ⟨rfl, hne, hall⟩
      obtain ⟨he, hp⟩ := toPs_ok hall
      generalize hps : l.map toP = ps at he hp
      subst he
      have hlen : (ps.map pc).length = ps.length := List.length_map ..
      have hb : isBook n ms (.tup (ps.map pc)) = (rising ps && closed ms ps) := by
        rw [isBook_tup]
        have h1 : (ps.map pc).isEmpty = false := by
          cases hz : ps.map pc with
          | nil => exact absurd hz hne
          | cons _ _ => rfl
        rw [h1, hall, hps]
        simp
      rw [hb]
      have hps0 : 1 ≤ ps.length := by
        cases ps with
        | nil => exact absurd rfl hne
        | cons _ _ => simp
      refine sx_cons (N1 := fun G' => G' = [.dat (sysD n ms), .dat (.tup (ps.map pc)), .un, .un, .un] ∧ rising ps = true) (s1_if (td_not (td_val (ed_call cr (ad_cons (ex_v 1) ad_nil) ⟨ps, by omega, hps0, rfl, rfl⟩))) (fun h => ?_) fun h => sx_nil ⟨rfl, ?_⟩) ?_
      · refine sx_one (s1_ret (ED.is ex_bl ?_))
        have : rising ps = false := by simpa using h
        rw [this, Bool.false_and]
      · simpa using h
      · rintro G' ⟨rfl, hr⟩
        have hm : (ms.map Mv.d).length = ms.length := List.length_map ..
        have h24 := A.m24
        have h12 := A.n12
        refine sx_set 2 (ed_rng T.b (n := ms.length) (ED.is (ed_len T.b (ed_moves T.cl T.nMoves (ex_v 0)) (.tup (ms.map Mv.d))) (by rw [hm]))) ?_
        refine sx_one (s1_ret (ED.is (ed_all T.b (bs := ps.flatMap fun p => (List.range ms.length).map fun m => inL (led (ldAt ms m) (pl2 p)) ps) (ED.is (ed_lc2 3 4 [("couple", 3), ("move", 4)] [4] ps (fun _ => List.range ms.length) pc (fun _ (m : Nat) => .int (m : Int)) (fun p m => .bl (inL (led (ldAt ms m) (pl2 p)) ps))
          (ix_tupT (ex_v 1)) (gx_one 3) (fun p hp' => ixl_rngV (ex_v 2) (by omega)) (gx_one 4) (fun p hp' m hm' => ?_) ?_) ?_)) ?_))
        · have hm2 := List.mem_range.mp hm'
          have hp2 := hp p hp'
          obtain ⟨q1, q2⟩ := pl_clD (led (ldAt ms m) (pl2 p))
          refine ED.is (ed_in (ls := false) (ed_call cl (ad_cons (ex_v 0) (ad_cons (ex_v 3) (ad_cons (ex_v 4) ad_nil))) ⟨n, ms, pl2 p, m, A, ?_, by unfold pl2; simp, hm2, rfl, rfl⟩) (ex_v 1) holdT q1 ?_ q2 ?_) ?_
          · intro x hx'
            unfold pl2 at hx'
            simp at hx'
            omega
          · rw [map_pc]; exact pl_nts _
          · rw [map_pc]; exact shaped_nts _
          · rw [inD_clD]
        · have e : (ps.flatMap fun p => (List.range ms.length).map fun m => Dt.bl (inL (led (ldAt ms m) (pl2 p)) ps)).length = ps.length * ms.length := by
            refine len_fm fun x _ => ?_
            rw [List.length_map, List.length_range]
          rw [e]
          have : ps.length * ms.length ≤ 1000 * 24 := Nat.mul_le_mul (by omega) h24
          omega
        · rw [List.map_flatMap]
          congr 1
          congr 1
          funext p
          rw [List.map_map]
          rfl
        · rw [hr, Bool.true_and]
          congr 1
          unfold closed
          rw [List.all_flatMap]
          congr 1
          funext p
          rw [List.all_map]
          rfl
  · have hn : d.isa "tuple" = false := by
      cases d with
      | tup l => exact absurd ⟨l, rfl⟩ ht
      | tuq l => exact absurd rfl (hq l)
      | _ => first | rfl | exact absurd rfl hc
    have hi : isBook n ms d = false := by
      cases d with
      | tup l => exact absurd ⟨l, rfl⟩ ht
      | _ => rfl
    rw [hi]
    refine sx_cons (N1 := fun _ => False) (s1_if (WX.tx (wd_or (y := false) (td_not (td_val (ed_isaTup T.b (ex_v 1) hc))) fun z => by rw [hn] at z; cases z)) (fun h => sx_one (s1_ret ex_bl)) (fun h => by rw [hn] at h; cases h)) (fun _ h => h.elim)
theorem ok_apart {fa : Addr} {fd : FuncData} (c4 : Cl E 4 "apart_there" R_apart_there) (F : Fun E.K "apart" "apart" s_apart fa fd) : FnOk E.P E.w E.K E.mg E.base CX0 5 fa fd ["system"] (spG E.K E.C R_apart) := by
  refine fn_ok F c_apart (fun ks P ⟨_, _, _, e, _⟩ => by rw [e]; rfl) (fun ks P ⟨n, ms, _, e, _⟩ => noOwn_dat [sysD n ms] e) fun hd ks P h => ?_
  obtain ⟨n, ms, A, rfl, rfl⟩ := h
  obtain ⟨h1, h2⟩ := falls_len A.n12 (gfp_spec n ms).1
  refine sx_one (s1_ret (ed_tuple T.b (ed_sortedD T.b (ed_call c4 (ad_cons (ex_v 0) ad_nil) ⟨n, ms, A, rfl, rfl⟩) ?_ (fun d hd => ?_) ?_ (by rw [List.length_map]; omega))))
  · rw [map_pc]; exact pl_nts _
  · obtain ⟨p, _, rfl⟩ := List.mem_map.mp hd
    show (nt _).py.depth ≤ 64
    rw [depth_nt]
    decide
  · rw [map_pc]
    refine canSort_nts fun a ha => ?_
    obtain ⟨p, _, rfl⟩ := List.mem_map.mp ha
    unfold pl2
    simp
theorem ok_apart_there {fa : Addr} {fd : FuncData} (c1 : Cl E 1 "all_couples" R_all_couples) (cl : Cl E 3 "couple_led" R_couple_led) (F : Fun E.K "apart_there" "apart_there" s_apart_there fa fd) : FnOk E.P E.w E.K E.mg E.base CX0 4 fa fd ["system"] (spG E.K E.C R_apart_there) := by
  refine fn_ok F c_apart_there (fun ks P ⟨_, _, _, e, _⟩ => by rw [e]; rfl) (fun ks P ⟨n, ms, _, e, _⟩ => noOwn_dat [sysD n ms] e) fun hd ks P h => ?_
  obtain ⟨n, ms, A, rfl, rfl⟩ := h
  have h24 := A.m24
  have h12 := A.n12
  have hm : (ms.map Mv.d).length = ms.length := List.length_map ..
  refine sx_set 1 (ed_call c1 (ad_cons (ex_v 0) ad_nil) ⟨n, ms, A, rfl, rfl⟩) ?_
  refine sx_set 2 ex_bl ?_
  refine sx_cons (N1 := fun G' => ∃ (L : List (Nat × Nat)) (x1 x2 x3 x4 x5 x6 : Ki), Falls ms (couples n) L ∧ fall ms L = L ∧ G' = [.dat (sysD n ms), .dat (.lst (L.map pc)), x1, x2, x3, x4, x5, x6]) (s1_while (fun m G' => ∃ (L : List (Nat × Nat)) (b : Bool) (x2 x3 x4 x5 x6 : Ki), Falls ms (couples n) L ∧ (b = false → fall ms L = L) ∧ m = L.length + (if b = true then 1 else 0) ∧ G' = [.dat (sysD n ms), .dat (.lst (L.map pc)), .dat (.bl b), x2, x3, x4, x5, x6]) _
    ⟨couples n, true, .un, .un, .un, .un, .un, .refl _, (fun z => nomatch z), rfl, rfl⟩ (fun m G' => kb G' 2) ?_ ?_ ?_) ?_
  · rintro m G' ⟨L, b, x2, x3, x4, x5, x6, hf, hb, rfl, rfl⟩
    exact td_val (ex_v 2)
  · rintro m G' ⟨L, b, x2, x3, x4, x5, x6, hf, hb, rfl, rfl⟩ hbt
    have hbt : b = true := hbt
    subst hbt
    obtain ⟨hL, hLp⟩ := falls_len h12 hf
    have hlenL : (L.map pc).length = L.length := List.length_map ..
    refine sx_set 3 (eo_lst (ds := []) ad_nil) ?_
    refine sx_cons (s1_for (.one 4) L pc (fun i G' => ∃ (x4 x5 x6 x7 : Ki), G' = [.dat (sysD n ms), .dat (.lst (L.map pc)), .dat (.bl true), .ol (((L.take i).filter (okp ms L)).map pc), x4, x5, x6, x7]) (ix_lst (ex_v 1)) (gx_one 4) ⟨_, _, _, _, rfl⟩ ?_) ?_
    · rintro i p hi G' ⟨x4, x5, x6, x7, rfl⟩
      have hp := hLp p (List.mem_of_getElem? hi)
      refine sx_setLc 5 (.one 6) [("move", 6)] (List.range ms.length) (fun m : Nat => .int (m : Int)) (fun m => clD (led (ldAt ms m) (pl2 p))) (ixl_range T.b (ED.is (ed_len T.b (ed_moves T.cl T.nMoves (ex_v 0)) (.tup (ms.map Mv.d))) (by rw [hm])) (by omega)) (gx_one 6) (fun m hm' => ?_) (by rw [List.length_range]; omega) ?_
      · refine ed_call cl (ad_cons (ex_v 0) (ad_cons (ex_v 4) (ad_cons (ex_v 6) ad_nil))) ⟨n, ms, pl2 p, m, A, fun x hx => ?_, by unfold pl2; simp, List.mem_range.mp hm', rfl, rfl⟩
        unfold pl2 at hx
        simp at hx
        omega
      · have et : L.take (i + 1) = L.take i ++ [p] := by rw [List.take_add_one, hi]; rfl
        refine sx_one (s1_if (td_val (ed_all T.b (bs := (List.range ms.length).map fun m => inL (led (ldAt ms m) (pl2 p)) L) (ED.is (ed_lc (.one 7) [("end", 7)] (List.range ms.length) (fun m => clD (led (ldAt ms m) (pl2 p))) (fun m => .bl (inL (led (ldAt ms m) (pl2 p)) L)) (ix_lst (ex_v 5)) (gx_one 7) (fun m hm' => ?_) (by rw [List.length_range]; omega)) (by rw [List.map_map]; rfl)))) (fun h => ?_) (fun h => sx_nil ?_))
        · obtain ⟨q1, q2⟩ := pl_clD (led (ldAt ms m) (pl2 p))
          refine ED.is (ed_in (ls := true) (ex_v 7) (ex_v 1) holdL q1 ?_ q2 ?_) ?_
          · rw [map_pc]; exact pl_nts _
          · rw [map_pc]; exact shaped_nts _
          · rw [inD_clD]
        · have ho : okp ms L p = true := by
            rw [List.all_map] at h
            exact h.symm
          refine sx_one (S1.weaken (s1_append 3 (ex_v 4) (fun k hk => ⟨_, hk⟩) rfl ?_) ?_)
          · rw [List.length_map]
            have h1 := List.length_filter_le (okp ms L) (L.take i)
            rw [List.length_take] at h1
            omega
          · rintro G' ⟨d, hd, rfl⟩
            cases hd
            have e1 : ((L.take (i + 1)).filter (okp ms L)).map pc = ((L.take i).filter (okp ms L)).map pc ++ [pc p] := by
              rw [et, List.filter_append, List.map_append]
              simp [ho]
            exact ⟨_, _, _, _, by rw [e1]; rfl⟩
        · have ho : okp ms L p = false := by
            rw [List.all_map] at h
            exact h.symm
          have e1 : ((L.take (i + 1)).filter (okp ms L)).map pc = ((L.take i).filter (okp ms L)).map pc := by
            rw [et, List.filter_append, List.map_append]
            simp [ho]
          exact ⟨_, _, _, _, by rw [e1]; rfl⟩
    · rintro G' ⟨x4, x5, x6, x7, rfl⟩
      rw [List.take_length]
      have hk : (((L.filter (okp ms L)).map pc).length : Int) = (fall ms L).length := by rw [List.length_map]; rfl
      refine sx_set 2 (ed_lt (ed_lenV T.b (ex_vl 3)) (ed_len T.b (ex_v 1) (.lst (L.map pc)))) ?_
      refine sx_freeze 3 rfl ?_
      refine sx_set 1 (ex_v 3) ?_
      have hle : (fall ms L).length ≤ L.length := List.length_filter_le _ _
      have q1 : (fall ms L).length + (if decide (((fall ms L).length : Int) < L.length) = true then 1 else 0) < L.length + (if true = true then 1 else 0) := by
        by_cases hlt : (fall ms L).length < L.length
        · rw [decide_eq_true (by omega), if_pos rfl]
          omega
        · rw [decide_eq_false (by omega), if_neg (by decide), if_pos rfl]
          omega
      have q2 : decide (((fall ms L).length : Int) < L.length) = false → fall ms (fall ms L) = fall ms L := by
        intro hd
        have hge : ¬ ((fall ms L).length : Int) < L.length := of_decide_eq_false hd
        have e : fall ms L = L := List.filter_sublist.eq_of_length (by show (fall ms L).length = _; omega)
        rw [e, e]
      exact sx_nil ⟨_, q1, fall ms L, decide (((fall ms L).length : Int) < L.length), _, _, _, _, _, .step hf, q2, rfl, by rw [hk, hlenL]; rfl⟩
  · rintro m G' ⟨L, b, x2, x3, x4, x5, x6, hf, hb, rfl, rfl⟩ hbf
    have hbf : b = false := hbf
    exact ⟨L, _, _, _, _, _, _, hf, hb hbf, rfl⟩
  · rintro G' ⟨L, x1, x2, x3, x4, x5, x6, hf, hb, rfl⟩
    exact sx_one (s1_ret (ED.is (ex_v 1) (by rw [gfp_uniq hf hb])))
end
end A8
set_option Elab.async false
set_option linter.all false
set_option maxRecDepth 100000
set_option maxHeartbeats 1000000
/-! rows and lots: the search both sides make -/
namespace A8
abbrev RL := List (List Nat × List Nat)
def bstep (ms : List Mv) (row l : List Nat) (st : RL × RL) (m : Nat) : RL × RL :=
  if led (ldAt ms m) l ∈ st.1.map (·.1) then st else (st.1 ++ [(led (ldAt ms m) l, row ++ [m])], st.2 ++ [(row ++ [m], led (ldAt ms m) l)])
def brow (ms : List Mv) (st : RL × RL) (rl : List Nat × List Nat) : RL × RL := (List.range ms.length).foldl (bstep ms rl.1 rl.2) st
def blevel (ms : List Mv) (K L : RL) : RL × RL := L.foldl (brow ms) (K, [])
def endedL (L : RL) : List (List Nat) := (L.filter fun rl => decide (rl.2.length = 1)).map (·.1)
inductive Runs (ms : List Mv) : RL → RL → Option (List Nat) → Prop where
  | nil {K : RL} : Runs ms K [] none
  | found {K L : RL} {r : List Nat} {rs : List (List Nat)} : endedL L = r :: rs → Runs ms K L (some r)
  | next {K L : RL} {o : Option (List Nat)} : L ≠ [] → endedL L = [] → Runs ms (blevel ms K L).1 (blevel ms K L).2 o → Runs ms K L o
theorem Runs.uniq {ms : List Mv} {K L : RL} {o o' : Option (List Nat)} (h : Runs ms K L o) (g : Runs ms K L o') : o = o' := by
  induction h with
  | nil =>
    cases g with
    | nil => rfl
    | found e => cases e
    | next n _ _ => exact absurd rfl n
  | found e =>
    cases g with
    | nil => cases e
    | found e' => rw [e] at e'; cases e'; rfl
    | next _ e' _ => rw [e] at e'; cases e'
  | next n e _ ih =>
    cases g with
    | nil => exact absurd rfl n
    | found e' => rw [e] at e'; cases e'
    | next _ _ g' => exact ih g'
def K0 (n : Nat) : RL := [(List.range n, [])]
def L0 (n : Nat) : RL := [([], List.range n)]
open Classical in
noncomputable def mrg (n : Nat) (ms : List Mv) : Option (List Nat) := if h : ∃ o, Runs ms (K0 n) (L0 n) o then h.choose else none
theorem mrg_of {n : Nat} {ms : List Mv} {o : Option (List Nat)} (h : Runs ms (K0 n) (L0 n) o) : mrg n ms = o := by
  have hx : ∃ o, Runs ms (K0 n) (L0 n) o := ⟨o, h⟩
  unfold mrg
  rw [dif_pos hx]
  exact hx.choose_spec.uniq h
/-! orders of rows -/
theorem lt_snoc {r s : List Nat} {a b : Nat} (hl : r.length = s.length) (h : r < s) : r ++ [a] < s ++ [b] := by
  induction r generalizing s with
  | nil =>
    cases s with
    | nil => exact absurd h (List.lt_irrefl _)
    | cons _ _ => cases hl
  | cons x r ih =>
    cases s with
    | nil => cases hl
    | cons y s =>
      rw [List.cons_lt_cons_iff] at h
      rw [List.cons_append, List.cons_append, List.cons_lt_cons_iff]
      rcases h with h | ⟨h, h2⟩
      · exact .inl h
      · exact .inr ⟨h, ih (by simpa using hl) h2⟩
theorem lt_snoc2 {r : List Nat} {a b : Nat} (h : a < b) : r ++ [a] < r ++ [b] := by
  induction r with
  | nil =>
    rw [List.nil_append, List.nil_append, List.cons_lt_cons_iff]
    exact .inl h
  | cons x r ih =>
    rw [List.cons_append, List.cons_append, List.cons_lt_cons_iff]
    exact .inr ⟨rfl, ih⟩
/-! counting -/
theorem nodup_len {α : Type} [DecidableEq α] : ∀ {l m : List α}, l.Nodup → (∀ x ∈ l, x ∈ m) → l.length ≤ m.length
  | [], _, _, _ => Nat.zero_le _
  | x :: l, m, h, hs => by
    rw [List.nodup_cons] at h
    have hx := hs x List.mem_cons_self
    have := nodup_len (l := l) (m := m.erase x) h.2 fun y hy => (List.mem_erase_of_ne (fun e => by rw [e] at hy; exact h.1 hy)).mpr (hs y (List.mem_cons_of_mem _ hy))
    rw [List.length_erase_of_mem hx] at this
    have hp : 0 < m.length := List.length_pos_of_mem hx
    rw [List.length_cons]
    omega
def subs : List Nat → List (List Nat)
  | [] => [[]]
  | x :: l => subs l ++ (subs l).map (x :: ·)
theorem subs_len : ∀ l : List Nat, (subs l).length = 2 ^ l.length
  | [] => rfl
  | x :: l => by
    rw [subs, List.length_append, List.length_map, subs_len l, List.length_cons, Nat.pow_succ]
    omega
theorem filter_subs (p : Nat → Bool) : ∀ l : List Nat, l.filter p ∈ subs l
  | [] => List.mem_cons_self
  | x :: l => by
    rw [subs, List.mem_append, List.filter_cons]
    split
    · exact .inr (List.mem_map.mpr ⟨_, filter_subs p l, rfl⟩)
    · exact .inl (filter_subs p l)
theorem lots_few {l : List (List Nat)} (h : l.Nodup) (hl : ∀ x ∈ l, x = lot x) : l.length ≤ 4096 := by
  have := nodup_len (m := subs (List.range 12)) h fun x hx => by rw [hl x hx]; exact filter_subs _ _
  rw [subs_len, List.length_range] at this
  exact this
theorem lot_lot (l : List Nat) (h : ∀ x ∈ l, x < 12) : lot (lot l) = lot l := by
  unfold lot
  apply List.filter_congr
  intro x hx
  rw [Bool.eq_iff_iff, decide_eq_true_eq, decide_eq_true_eq, List.mem_filter]
  simp [hx]
theorem mem_led {n : Nat} {ld l : List Nat} (hn : n ≤ 12) (hl : ld.length = n) (hx : ∀ x ∈ ld, x < n) (h : ∀ x ∈ l, x < n) {y : Nat} : y ∈ led ld l ↔ ∃ x ∈ l, go ld x = y := by
  unfold led
  rw [mem_lot]
  · rw [List.mem_map]
  · intro z hz
    obtain ⟨x, hx', rfl⟩ := List.mem_map.mp hz
    have := (go_lt hl hx (h x hx')).1
    omega
theorem led_lt {n : Nat} {ld l : List Nat} (hn : n ≤ 12) (hl : ld.length = n) (hx : ∀ x ∈ ld, x < n) (h : ∀ x ∈ l, x < n) : ∀ y ∈ led ld l, y < n := fun y hy => by
  obtain ⟨x, hx', rfl⟩ := (mem_led hn hl hx h).mp hy
  exact (go_lt hl hx (h x hx')).1
/-! what holds at each level -/
structure WfK (n k : Nat) (K : RL) : Prop where
  keys : (K.map (·.1)).Nodup
  lots : ∀ kv ∈ K, kv.1 = lot kv.1 ∧ ∀ x ∈ kv.1, x < n
structure Wf (n k : Nat) (K L : RL) : Prop where
  kk : WfK n k K
  mem : ∀ rl ∈ L, (rl.2, rl.1) ∈ K
  asc : (L.map (·.1)).Pairwise (· < ·)
  emp : (∃ x, L = [([], x)]) ∨ ∀ rl ∈ L, rl.1 ≠ []
  len : ∃ d, d < K.length ∧ ∀ rl ∈ L, rl.1.length = d
  row : ∀ rl ∈ L, ∀ x ∈ rl.1, x < k
theorem WfK.few {n k : Nat} {K : RL} (w : WfK n k K) : K.length ≤ 4096 := by
  rw [← List.length_map (f := (·.1))]
  refine lots_few w.keys fun x hx => ?_
  obtain ⟨kv, h1, rfl⟩ := List.mem_map.mp hx
  exact (w.lots kv h1).1
theorem lot_range {n : Nat} (hn : n ≤ 12) : lot (List.range n) = List.range n := by
  refine asc_eq (· < ·) (fun x => Nat.lt_irrefl x) (fun x y h => by omega) (lot_asc _) List.pairwise_lt_range fun x => ?_
  rw [mem_lot]
  intro y hy
  have := List.mem_range.mp hy
  omega
theorem wf0 {n k : Nat} (hn : n ≤ 12) : Wf n k (K0 n) (L0 n) := by
  refine ⟨⟨by simp [K0], fun kv hkv => ?_⟩, fun rl h => ?_, by simp [L0], .inl ⟨_, rfl⟩, ⟨0, by simp [K0], fun rl h => ?_⟩, fun rl h x hx => ?_⟩
  · rw [List.mem_singleton.mp hkv]
    exact ⟨(lot_range hn).symm, fun x hx => List.mem_range.mp hx⟩
  · rw [List.mem_singleton.mp h]; exact List.mem_cons_self
  · rw [List.mem_singleton.mp h]; rfl
  · rw [List.mem_singleton.mp h] at hx; cases hx
/-- what holds while a level is made -/
structure Mid (ms : List Mv) (n : Nat) (K : RL) (st : RL × RL) : Prop where
  k : WfK n ms.length st.1
  ex : st.1 = K ++ st.2.map fun rl => (rl.2, rl.1)
theorem bstep_mid {ms : List Mv} {n : Nat} (A : Aut n ms) {K : RL} {row l : List Nat} (hl : ∀ x ∈ l, x < n) {st : RL × RL} (h : Mid ms n K st) {m : Nat} (hm : m < ms.length) : Mid ms n K (bstep ms row l st m) := by
  unfold bstep
  split
  · exact h
  · rename_i hn
    obtain ⟨_, _, _, g1, g2⟩ := A.at hm
    refine ⟨⟨?_, fun kv hkv => ?_⟩, ?_⟩
    · rw [List.map_append, List.nodup_append]
      refine ⟨h.k.keys, by simp, fun x hx y hy => ?_⟩
      simp at hy
      rw [hy]
      exact fun e => hn (e ▸ hx)
    · rcases List.mem_append.mp hkv with q | q
      · exact h.k.lots kv q
      · rw [List.mem_singleton.mp q]
        refine ⟨?_, led_lt A.n12 g1 g2 hl⟩
        unfold led
        rw [lot_lot]
        intro x hx
        obtain ⟨y, hy, rfl⟩ := List.mem_map.mp hx
        have := (go_lt g1 g2 (hl y hy)).1
        have := A.n12
        omega
    · show st.1 ++ _ = _
      rw [List.map_append, ← List.append_assoc, ← h.ex]
      rfl
theorem bstep_sub {ms : List Mv} {row l : List Nat} {st : RL × RL} {m : Nat} {X : List (List Nat)} (h : (st.2.map (·.1)).Sublist X) : ((bstep ms row l st m).2.map (·.1)).Sublist (X ++ [row ++ [m]]) := by
  unfold bstep
  split
  · exact h.trans (List.sublist_append_left _ _)
  · rw [List.map_append]
    exact h.append (List.Sublist.refl _)
def expR (k : Nat) (L : RL) : List (List Nat) := L.flatMap fun rl => (List.range k).map fun m => rl.1 ++ [m]
theorem brow_fold {ms : List Mv} {n : Nat} (A : Aut n ms) {K : RL} {row l : List Nat} (hl : ∀ x ∈ l, x < n) {X : List (List Nat)} {st : RL × RL} (h : Mid ms n K st) (hs : (st.2.map (·.1)).Sublist X) : ∀ k, k ≤ ms.length →
    Mid ms n K ((List.range k).foldl (bstep ms row l) st) ∧ (((List.range k).foldl (bstep ms row l) st).2.map (·.1)).Sublist (X ++ (List.range k).map fun m => row ++ [m])
  | 0, _ => ⟨h, by simpa using hs⟩
  | k + 1, hk => by
    obtain ⟨i1, i2⟩ := brow_fold A hl h hs k (by omega)
    rw [List.range_succ, List.foldl_append, List.map_append, ← List.append_assoc]
    exact ⟨bstep_mid A hl i1 (by omega), bstep_sub i2⟩
theorem blevel_fold {ms : List Mv} {n : Nat} (A : Aut n ms) {K : RL} : ∀ (L : RL) (st : RL × RL) (X : List (List Nat)), (∀ rl ∈ L, ∀ x ∈ rl.2, x < n) → Mid ms n K st → (st.2.map (·.1)).Sublist X →
    Mid ms n K (L.foldl (brow ms) st) ∧ ((L.foldl (brow ms) st).2.map (·.1)).Sublist (X ++ expR ms.length L)
  | [], st, X, _, h, hs => ⟨h, by simpa [expR] using hs⟩
  | rl :: L, st, X, hl, h, hs => by
    obtain ⟨i1, i2⟩ := brow_fold A (row := rl.1) (hl rl List.mem_cons_self) h hs ms.length (Nat.le_refl _)
    rw [List.foldl_cons]
    have := blevel_fold A L (brow ms st rl) _ (fun r hr => hl r (List.mem_cons_of_mem _ hr)) i1 i2
    refine ⟨this.1, ?_⟩
    have e : X ++ expR ms.length (rl :: L) = (X ++ (List.range ms.length).map fun m => rl.1 ++ [m]) ++ expR ms.length L := by
      unfold expR
      rw [List.flatMap_cons, List.append_assoc]
    rw [e]
    exact this.2
theorem expR_asc {k d : Nat} {L : RL} (h : (L.map (·.1)).Pairwise (· < ·)) (hd : ∀ rl ∈ L, rl.1.length = d) : (expR k L).Pairwise (· < ·) := by
  unfold expR
  rw [List.pairwise_flatMap]
  refine ⟨fun rl _ => ?_, ?_⟩
  · rw [List.pairwise_map]
    exact List.pairwise_lt_range.imp fun h => lt_snoc2 h
  · rw [List.pairwise_map] at h
    have h2 := h
    rw [List.pairwise_iff_forall_sublist] at h2 ⊢
    intro a b hab x hx y hy
    obtain ⟨m, _, rfl⟩ := List.mem_map.mp hx
    obtain ⟨m', _, rfl⟩ := List.mem_map.mp hy
    have ha := hd a (hab.subset List.mem_cons_self)
    have hb := hd b (hab.subset (List.mem_cons_of_mem _ List.mem_cons_self))
    exact lt_snoc (by rw [ha, hb]) (h2 hab)
theorem Wf.lot {n k : Nat} {K L : RL} (w : Wf n k K L) : ∀ rl ∈ L, rl.2 = A8.lot rl.2 ∧ ∀ x ∈ rl.2, x < n := fun rl h => w.kk.lots _ (w.mem rl h)
theorem Wf.next {ms : List Mv} {n : Nat} (A : Aut n ms) {K L : RL} (w : Wf n ms.length K L) : Wf n ms.length (blevel ms K L).1 (blevel ms K L).2 ∧ (blevel ms K L).1.length = K.length + (blevel ms K L).2.length := by
  obtain ⟨d, hd, hL⟩ := w.len
  have hl : ∀ rl ∈ L, ∀ x ∈ rl.2, x < n := fun rl h => (w.lot rl h).2
  have m0 : Mid ms n K (K, []) := ⟨w.kk, by simp⟩
  obtain ⟨h1, h2⟩ := blevel_fold A L (K, []) [] hl m0 (List.Sublist.refl _)
  rw [List.nil_append] at h2
  have hx : ∀ r ∈ expR ms.length L, r.length = d + 1 ∧ ∀ x ∈ r, x < ms.length := fun r hr => by
    obtain ⟨rl, h3, h4⟩ := List.mem_flatMap.mp hr
    obtain ⟨m, h5, rfl⟩ := List.mem_map.mp h4
    refine ⟨by rw [List.length_append, hL rl h3]; rfl, fun x hx => ?_⟩
    rcases List.mem_append.mp hx with q | q
    · exact w.row rl h3 x q
    · rw [List.mem_singleton.mp q]; exact List.mem_range.mp h5
  have hr : ∀ rl ∈ (blevel ms K L).2, rl.1.length = d + 1 ∧ ∀ x ∈ rl.1, x < ms.length := fun rl h => hx _ (h2.subset (List.mem_map.mpr ⟨rl, h, rfl⟩))
  have he : (blevel ms K L).1.length = K.length + (blevel ms K L).2.length := by
    have e : (blevel ms K L).1 = K ++ (blevel ms K L).2.map fun rl => (rl.2, rl.1) := h1.ex
    rw [e, List.length_append, List.length_map]
  refine ⟨⟨h1.k, fun rl h => ?_, (expR_asc w.asc hL).sublist h2, .inr fun rl h z => ?_, ?_, fun rl h => (hr rl h).2⟩, he⟩
  · have e : (blevel ms K L).1 = K ++ (blevel ms K L).2.map fun rl => (rl.2, rl.1) := h1.ex
    rw [e]
    exact List.mem_append_right _ (List.mem_map.mpr ⟨rl, h, rfl⟩)
  · have := (hr rl h).1
    rw [z] at this
    cases this
  · cases hz : (blevel ms K L).2 with
    | nil => exact ⟨0, by rw [he, hz]; omega, fun rl h => by cases h⟩
    | cons a b =>
      refine ⟨d + 1, by rw [he, hz, List.length_cons]; omega, fun rl h => (hr rl (by rw [hz]; exact h)).1⟩
end A8
set_option Elab.async false
set_option linter.all false
set_option maxRecDepth 100000
set_option maxHeartbeats 1000000
namespace A8
open PySem PySem.Spec PyProof.Rows L2
variable {E : En} (T : Tx E) {f : Fm} {G : List Ki} {e a b c : Expr} {pos : Pos}
/-! ### sorting what is sorted -/
def toI (a : List Nat) : List Int := a.map fun n : Nat => (n : Int)
theorem ints_lt : ∀ a b : List Nat, (toI a < toI b) ↔ a < b
  | [], [] => by simp [toI]
  | [], _ :: _ => by simp [toI]
  | _ :: _, [] => by simp [toI]
  | x :: a, y :: b => by
    show ((x : Int) :: toI a < (y : Int) :: toI b) ↔ _
    rw [List.cons_lt_cons_iff, List.cons_lt_cons_iff, ints_lt a b]
    constructor
    · rintro (h | ⟨h, h2⟩)
      · exact .inl (by omega)
      · exact .inr ⟨by omega, h2⟩
    · rintro (h | ⟨h, h2⟩)
      · exact .inl (by omega)
      · exact .inr ⟨by omega, h2⟩
theorem dataLt_nt (a b : List Nat) : PySem.W.dataLt (nt a).py (nt b).py = decide (a < b) := by
  rw [py_nt, py_nt, PySem.W.dataLt_tuple]
  have h := PySem.W.dataLt_ints (toI a) (toI b)
  unfold PySem.W.rowLt at h
  have e : ∀ l : List Nat, (toI l).map PyData.int = pyN l := fun l => by unfold toI pyN; rw [List.map_map]; rfl
  rw [e, e] at h
  rw [h, Bool.eq_iff_iff, decide_eq_true_eq, decide_eq_true_eq, ints_lt]
theorem natl_asymm {a b : List Nat} (h : a < b) : ¬ b < a := List.lt_asymm h
theorem dle_nt {a b : List Nat} (h : a < b) : dle (nt a) (nt b) = true := by
  unfold dle
  rw [dataLt_nt, decide_eq_false (natl_asymm h)]
  rfl
theorem sort_rows {rs : List (List Nat)} (h : rs.Pairwise (· < ·)) : (rs.map nt).mergeSort dle = rs.map nt := by
  refine List.mergeSort_of_pairwise ?_
  rw [List.pairwise_map]
  exact h.imp fun h => dle_nt h
def prD (rl : List Nat × List Nat) : Dt := .tup [nt rl.1, nt rl.2]
theorem py_prD (rl : List Nat × List Nat) : (prD rl).py = .tuple [.tuple (pyN rl.1), .tuple (pyN rl.2)] := by
  unfold prD
  rw [Dt.py, Dt.pyL, Dt.pyL, Dt.pyL, py_nt, py_nt]
theorem alike_pyN (a b : List Nat) : PySem.W.alike (.tuple (pyN a)) (.tuple (pyN b)) = true := by
  have h := PySem.W.alike_ints (toI a) (toI b)
  have e : ∀ l : List Nat, (toI l).map PyData.int = pyN l := fun l => by unfold toI pyN; rw [List.map_map]; rfl
  rw [e, e] at h
  rw [PySem.W.alike, h]
theorem dle_prD {x y : List Nat × List Nat} (h : x.1 < y.1) : dle (prD x) (prD y) = true := by
  unfold dle
  rw [py_prD, py_prD, PySem.W.dataLt_pair (alike_pyN _ _) (alike_pyN _ _)]
  have h1 : PyData.eqv (.tuple (pyN y.1)) (.tuple (pyN x.1)) = false := by
    rw [PyData.eqv, eqv_pyN]
    refine decide_eq_false fun e => ?_
    rw [e] at h
    exact List.lt_irrefl _ h
  rw [h1]
  have h2 := dataLt_nt y.1 x.1
  rw [py_nt, py_nt] at h2
  rw [if_neg (by decide), h2, decide_eq_false (natl_asymm h)]
  rfl
theorem sort_prs {L : RL} (h : (L.map (·.1)).Pairwise (· < ·)) : (L.map prD).mergeSort dle = L.map prD := by
  refine List.mergeSort_of_pairwise ?_
  rw [List.pairwise_map] at h ⊢
  exact h.imp fun h => dle_prD h
theorem pl_prD (rl : List Nat × List Nat) : (prD rl).pl = true := by
  unfold prD
  rw [Dt.pl, Dt.plL, Dt.plL, Dt.plL, pl_nt, pl_nt]
  rfl
theorem pl_prs (L : RL) : Dt.plL (L.map prD) = true := by
  rw [Dt.plL_eq, List.all_eq_true]
  intro x hx
  obtain ⟨a, _, rfl⟩ := List.mem_map.mp hx
  exact pl_prD a
theorem depth_prD (rl : List Nat × List Nat) : (prD rl).py.depth ≤ 64 := by
  rw [py_prD, PyData.depth, PyData.depthAll, PyData.depthAll, PyData.depthAll, PyData.depth, PyData.depth, depth_pyN, depth_pyN]
  decide
theorem canSort_prs (L : RL) : CanSort ((L.map prD).map Dt.py) := by
  refine ⟨fun d hd d' hd' => ?_, Or.inl (Or.inl ?_)⟩
  · obtain ⟨x, hx, rfl⟩ := List.mem_map.mp hd
    obtain ⟨y, hy, rfl⟩ := List.mem_map.mp hd'
    obtain ⟨a, _, rfl⟩ := List.mem_map.mp hx
    obtain ⟨b, _, rfl⟩ := List.mem_map.mp hy
    rw [py_prD, py_prD, PySem.W.alike, PySem.W.alikeAll, PySem.W.alikeAll, alike_pyN, alike_pyN, PySem.W.alikeAll]
    rfl
  · intro d hd
    obtain ⟨x, hx, rfl⟩ := List.mem_map.mp hd
    obtain ⟨a, _, rfl⟩ := List.mem_map.mp hx
    rw [py_prD]
    exact ⟨_, _, rfl⟩
theorem canSort_rows {rs : List (List Nat)} (h : (∀ a ∈ rs, a ≠ []) ∨ ∃ a, rs = [a]) : CanSort ((rs.map nt).map Dt.py) := by
  rcases h with h | ⟨a, rfl⟩
  · exact canSort_nts h
  · refine ⟨fun d hd d' hd' => ?_, .inr ⟨_, rfl, ?_⟩⟩
    · rw [List.mem_singleton.mp hd, List.mem_singleton.mp hd', py_nt]
      exact alike_pyN _ _
    · rw [py_nt]
      exact fun z => nomatch z
theorem TD.is {b b' : Bool} (h : TD E f e G b) (q : b = b') : TD E f e G b' := q ▸ h
theorem natsD_len (l : List Nat) : (natsD l).length = l.length := List.length_map ..
/-! ### merging_row -/
def optD : Option (List Nat) → Dt
  | none => .non
  | some r => nt r
def R_merging_row (ks : List Ki) (P : Ki → Prop) : Prop := ∃ (n : Nat) (ms : List Mv), Aut n ms ∧ ks = [.dat (sysD n ms)] ∧ P = A8.one (optD (mrg n ms))
def kl (G : List Ki) (i : Nat) : Bool := match G[i]? with
  | some (Ki.dat (Dt.lst l)) => decide (0 < l.length)
  | _ => false
def kvR (K : RL) : List (List Nat × Dt) := K.map fun kv => (kv.1, nt kv.2)
theorem dget_none {g : List Nat → Dt} {t : List Nat} : ∀ {K : RL}, t ∉ K.map (·.1) → dget (K.map fun kv => (kv.1, g kv.2)) t = none
  | [], _ => rfl
  | kv :: K, h => by
    rw [List.map_cons] at h ⊢
    rw [dget_cons, if_neg (fun e => h (by rw [← e]; exact List.mem_cons_self)), dget_none fun z => h (List.mem_cons_of_mem _ z)]
theorem dget_some {g : List Nat → Dt} {t r : List Nat} : ∀ {K : RL}, (K.map (·.1)).Nodup → (t, r) ∈ K → dget (K.map fun kv => (kv.1, g kv.2)) t = some (g r)
  | [], _, h => by cases h
  | kv :: K, hn, h => by
    rw [List.map_cons, List.nodup_cons] at hn
    rw [List.map_cons, dget_cons]
    rcases List.mem_cons.mp h with e | h
    · rw [← e]
      exact if_pos rfl
    · rw [if_neg (fun e => hn.1 (by rw [e]; exact List.mem_map.mpr ⟨_, h, rfl⟩))]
      exact dget_some hn.2 h
theorem dget_isSome {g : List Nat → Dt} {t : List Nat} {K : RL} (hn : (K.map (·.1)).Nodup) : (dget (K.map fun kv => (kv.1, g kv.2)) t).isSome = decide (t ∈ K.map (·.1)) := by
  by_cases h : t ∈ K.map (·.1)
  · obtain ⟨kv, h1, rfl⟩ := List.mem_map.mp h
    rw [dget_some (r := kv.2) hn h1, decide_eq_true h]
    rfl
  · rw [dget_none h, decide_eq_false h]
    rfl
theorem ended_filter (L : RL) : (L.filter fun rl => decide (rl.2.length = 1)).map (fun rl => nt rl.1) = (endedL L).map nt := by
  unfold endedL
  rw [List.map_map]
  rfl
theorem Wf.ended {n k : Nat} {K L : RL} (w : Wf n k K L) : (endedL L).Pairwise (· < ·) ∧ ((∀ a ∈ endedL L, a ≠ []) ∨ endedL L = [] ∨ ∃ a, endedL L = [a]) := by
  have hs : (endedL L).Sublist (L.map (·.1)) := (List.filter_sublist).map _
  refine ⟨w.asc.sublist hs, ?_⟩
  rcases w.emp with ⟨x, rfl⟩ | h
  · refine .inr ?_
    unfold endedL
    by_cases hx : x.length = 1
    · right; exact ⟨[], by simp [hx]⟩
    · left; simp [hx]
  · refine .inl fun a ha => ?_
    obtain ⟨rl, h1, rfl⟩ := List.mem_map.mp (hs.subset ha)
    exact h rl h1
section
include T
theorem ok_merging_row {fa : Addr} {fd : FuncData} (c2 : Cl E 2 "lot_led" R_lot_led) (F : Fun E.K "merging_row" "merging_row" s_merging_row fa fd) : FnOk E.P E.w E.K E.mg E.base CX0 3 fa fd ["system"] (spG E.K E.C R_merging_row) := by
  refine fn_ok F c_merging_row (fun ks P ⟨_, _, _, e, _⟩ => by rw [e]; rfl) (fun ks P ⟨n, ms, _, e, _⟩ => noOwn_dat [sysD n ms] e) fun hd ks P h => ?_
  obtain ⟨n, ms, A, rfl, rfl⟩ := h
  have h24 := A.m24
  have h12 := A.n12
  have hm : (ms.map Mv.d).length = ms.length := List.length_map ..
  refine sx_set 1 (ed_tupRange T.b (ed_many T.cl T.nMany (ex_v 0)) (by omega)) ?_
  refine sx_set 2 (eo_disp (ns := List.range n) (d := nt []) (ex_v 1) (ed_tup (ds := []) ad_nil)) ?_
  refine sx_set 3 (ed_lst (ds := [nt (List.range n)]) (ad_cons (ex_v 1) ad_nil)) ?_
  refine sx_cons (N1 := fun G' => ∃ (K : RL) (x1 x4 x5 x6 x7 x8 x9 : Ki), (∀ o, Runs ms K [] o → Runs ms (K0 n) (L0 n) o) ∧ G' = [.dat (sysD n ms), x1, .od (kvR K), .dat (.lst []), x4, x5, x6, x7, x8, x9])
    (s1_while (fun m G' => ∃ (K L : RL) (x1 x4 x5 x6 x7 x8 x9 : Ki), Wf n ms.length K L ∧ (∀ o, Runs ms K L o → Runs ms (K0 n) (L0 n) o) ∧ m = (4096 - K.length) + (if L = [] then 0 else 1) ∧ G' = [.dat (sysD n ms), x1, .od (kvR K), .dat (.lst (L.map fun rl => nt rl.2)), x4, x5, x6, x7, x8, x9]) _
    ⟨K0 n, L0 n, _, .un, .un, .un, .un, .un, .un, wf0 h12, fun o h => h, rfl, rfl⟩ (fun m G' => kl G' 3) ?_ ?_ ?_) ?_
  · rintro m G' ⟨K, L, x1, x4, x5, x6, x7, x8, x9, w, hr, rfl, rfl⟩
    refine (td_gt (ed_len T.b (ex_v 3) (.lst (L.map fun rl => nt rl.2))) ex_int).weaken fun c hc => ?_
    rw [hc]
    show decide ((0 : Int) < ((L.map fun rl => nt rl.2).length : Int)) = decide (0 < (L.map fun rl => nt rl.2).length)
    rw [Bool.eq_iff_iff, decide_eq_true_eq, decide_eq_true_eq]
    omega
  · rintro m G' ⟨K, L, x1, x4, x5, x6, x7, x8, x9, w, hr, rfl, rfl⟩ hne
    have hL : L ≠ [] := by
      intro z
      subst z
      exact absurd (show false = true from hne) (by decide)
    obtain ⟨wn, hlenK⟩ := w.next A
    have few := w.kk.few
    have fewL : L.length ≤ 4096 := by
      have h1 : (L.map fun rl => (rl.2, rl.1)).length ≤ K.length := by
        refine nodup_len ?_ fun x hx => ?_
        · rw [List.nodup_iff_pairwise_ne, List.pairwise_map]
          exact (List.pairwise_map.mp w.asc).imp fun {a b} h e => by
            rw [(Prod.mk.inj e).2] at h
            exact List.lt_irrefl _ h
        · obtain ⟨rl, h, rfl⟩ := List.mem_map.mp hx
          exact w.mem rl h
      rw [List.length_map] at h1
      omega
    have get : ∀ rl ∈ L, dget (kvR K) rl.2 = some (nt rl.1) := fun rl h => dget_some w.kk.keys (w.mem rl h)
    obtain ⟨we1, we2⟩ := w.ended
    refine sx_set 5 (k := .dat (.lst ((endedL L).map nt))) (ED.is (ed_sortedD T.b (ed_lcf (.one 4) [("lot", 4)] L (fun rl => nt rl.2) (fun rl => nt rl.1) (fun rl => decide (rl.2.length = 1)) (ix_lst (ex_v 3)) (gx_one 4) (fun rl h => TD.is (td_eq (ed_len T.b (ex_v 4) (.tup (natsD rl.2))) ex_int) ?_)
      (fun rl h _ => ed_dget (ex_vd 2) (ex_v 4) (get rl h)) (by omega)) ?_ (fun d hd => ?_) ?_ ?_) ?_) ?_
    · rw [natsD_len, Bool.eq_iff_iff, decide_eq_true_eq, decide_eq_true_eq]
      omega
    · rw [ended_filter]; exact pl_nts _
    · rw [ended_filter] at hd
      obtain ⟨a, _, rfl⟩ := List.mem_map.mp hd
      rw [depth_nt]
      decide
    · rw [ended_filter]
      rcases we2 with h | h | h
      · exact canSort_rows (.inl h)
      · rw [h]
        exact canSort_rows (.inl fun a ha => by cases ha)
      · exact canSort_rows (.inr h)
    · rw [List.length_map]
      have := List.length_filter_le (fun rl : List Nat × List Nat => decide (rl.2.length = 1)) L
      omega
    · rw [ended_filter, sort_rows we1]
    refine sx_cons (N1 := fun G' => G' = [.dat (sysD n ms), x1, .od (kvR K), .dat (.lst (L.map fun rl => nt rl.2)), x4, .dat (.lst ((endedL L).map nt)), x6, x7, x8, x9] ∧ endedL L = []) (s1_if (td_gt (ed_len T.b (ex_v 5) (.lst ((endedL L).map nt))) ex_int) (fun h => ?_) (fun h => sx_nil ⟨rfl, ?_⟩)) ?_
    · cases hz : endedL L with
      | nil =>
        rw [hz] at h
        exact absurd (show true = false from h) (by decide)
      | cons r rs =>
        refine sx_one (s1_ret (ED.is (ed_ixL (l := (r :: rs).map nt) (ex_v 5) ex_int (x := nt r) (by rw [List.map_cons]; exact atI_0)) ?_))
        rw [mrg_of (hr (some r) (.found hz))]
        rfl
    · cases hz : endedL L with
      | nil => rfl
      | cons r rs =>
        rw [hz] at h
        have h' := of_decide_eq_false h.symm
        rw [List.map_cons, List.length_cons] at h'
        omega
    · rintro G' ⟨rfl, hz⟩
      refine sx_set 6 (eo_lst (ds := []) ad_nil) ?_
      have hl : ∀ rl ∈ L, ∀ x ∈ rl.2, x < n := fun rl h => (w.lot rl h).2
      obtain ⟨d, hd, hdL⟩ := w.len
      have m0 : Mid ms n K (K, []) := ⟨w.kk, by simp⟩
      refine sx_cons (s1_for (.two 7 4) L prD (fun i G' => ∃ (x4 x7 x8 x9 : Ki), G' = [.dat (sysD n ms), x1, .od (kvR ((L.take i).foldl (brow ms) (K, [])).1), .dat (.lst (L.map fun rl => nt rl.2)), x4, .dat (.lst ((endedL L).map nt)), .ol (((L.take i).foldl (brow ms) (K, [])).2.map fun rl => nt rl.2), x7, x8, x9])
        (ix_lst (ED.is (ed_sortedD T.b (ed_lc (.one 4) [("lot", 4)] L (fun rl => nt rl.2) prD (ix_lst (ex_v 3)) (gx_one 4) (fun rl h => ed_tup (ds := [nt rl.1, nt rl.2]) (ad_cons (ed_dget (ex_vd 2) (ex_v 4) (get rl h)) (ad_cons (ex_v 4) ad_nil))) (by omega)) (pl_prs L) (fun d hd => ?_) (canSort_prs L) (by rw [List.length_map]; omega)) (by rw [sort_prs w.asc]))) (gx_two 7 4) ⟨_, _, _, _, rfl⟩ ?_ (fun rl _ => ⟨_, _, rfl⟩)) ?_
      · obtain ⟨a, _, rfl⟩ := List.mem_map.mp hd
        exact depth_prD a
      · rintro i rl hi G' ⟨x4, x7, x8, x9, rfl⟩
        have hrl := List.mem_of_getElem? hi
        obtain ⟨p1, p2⟩ := blevel_fold A (L.take i) (K, []) [] (fun rl h => hl rl (List.mem_of_mem_take h)) m0 (List.Sublist.refl _)
        generalize hst : (L.take i).foldl (brow ms) (K, []) = st at p1 p2
        have hnext : (L.take (i + 1)).foldl (brow ms) (K, []) = brow ms st rl := by
          rw [List.take_add_one, hi, List.foldl_append, hst]
          rfl
        rw [hnext]
        obtain ⟨row, lt⟩ := rl
        have hlt : ∀ x ∈ lt, x < n := hl _ hrl
        have hlt64 : lt.length < 64 := by
          have h1 := (w.lot _ hrl).1
          have h2 : (lot lt).length ≤ (List.range 12).length := List.length_filter_le _ _
          have h1' : lt = lot lt := h1
          rw [← h1', List.length_range] at h2
          omega
        have hrow : row.length < 5000 := by
          have := hdL _ hrl
          have h3 : row.length = d := this
          omega
        refine sx_one (S1.weaken (s1_for (.one 8) (List.range ms.length) (fun m : Nat => .int (m : Int)) (fun j G' => ∃ (x8 x9 : Ki), G' = [.dat (sysD n ms), x1, .od (kvR ((List.range j).foldl (bstep ms row lt) st).1), .dat (.lst (L.map fun rl => nt rl.2)), .dat (nt lt), .dat (.lst ((endedL L).map nt)), .ol (((List.range j).foldl (bstep ms row lt) st).2.map fun rl => nt rl.2), .dat (nt row), x8, x9])
          (ixl_range T.b (ED.is (ed_len T.b (ed_moves T.cl T.nMoves (ex_v 0)) (.tup (ms.map Mv.d))) (by rw [hm])) (by omega)) (gx_one 8) ⟨_, _, rfl⟩ ?_) ?_)
        · rintro j m hj G' ⟨x8, x9, rfl⟩
          obtain ⟨hjl, hjm⟩ := List.getElem?_eq_some_iff.mp hj
          rw [List.length_range] at hjl
          rw [List.getElem_range] at hjm
          subst hjm
          obtain ⟨r1, _⟩ := brow_fold A (row := row) hlt p1 p2 j (by omega)
          rw [List.range_succ, List.foldl_append]
          generalize hst2 : (List.range j).foldl (bstep ms row lt) st = st2 at r1
          have few2 := r1.k.few
          have hf2 : st2.2.length ≤ 4096 := by
            have := congrArg List.length r1.ex
            rw [List.length_append, List.length_map] at this
            omega
          show SX _ _ _ _ (fun G2 => ∃ (x8 x9 : Ki), G2 = [.dat (sysD n ms), x1, .od (kvR (bstep ms row lt st2 j).1), .dat (.lst (L.map fun rl => nt rl.2)), .dat (nt lt), .dat (.lst ((endedL L).map nt)), .ol ((bstep ms row lt st2 j).2.map fun rl => nt rl.2), .dat (nt row), x8, x9]) _
          refine sx_set 9 (ed_call c2 (ad_cons (ex_v 0) (ad_cons (ex_v 4) (ad_cons (ex_v 8) ad_nil))) ⟨n, ms, lt, j, A, hlt, hlt64, hjl, rfl, rfl⟩) ?_
          have hsome : (dget (kvR st2.1) (led (ldAt ms j) lt)).isSome = decide (led (ldAt ms j) lt ∈ st2.1.map (·.1)) := dget_isSome r1.k.keys
          refine sx_one (s1_if (td_dnotin (ns := led (ldAt ms j) lt) (ex_v 9) (ex_vd 2)) (fun h => ?_) (fun h => ?_))
          · rw [hsome] at h
            have hnot : led (ldAt ms j) lt ∉ st2.1.map (·.1) := by simpa using h
            have eb : bstep ms row lt st2 j = (st2.1 ++ [(led (ldAt ms j) lt, row ++ [j])], st2.2 ++ [(row ++ [j], led (ldAt ms j) lt)]) := if_neg hnot
            refine sx_cons (s1_dput 2 (d := nt (row ++ [j])) (ED.is (ed_cat (l := natsD row) (m := [.int (j : Int)]) (ex_v 7) (ed_tup (ds := [.int (j : Int)]) (ad_cons (ex_v 8) ad_nil)) (by rw [natsD_len]; simp; omega)) ?_) (ex_v 9) (dget_none hnot) ?_) ?_
            · rw [nt_def]
              unfold natsD
              rw [List.map_append]
              rfl
            · rw [List.length_map]
              omega
            · rintro G' rfl
              refine sx_one (S1.weaken (s1_append 6 (ex_v 9) (fun k hk => ⟨_, hk⟩) rfl (by rw [List.length_map]; omega)) ?_)
              rintro G' ⟨d', hd', rfl⟩
              cases hd'
              have e1 : kvR (bstep ms row lt st2 j).1 = kvR st2.1 ++ [(led (ldAt ms j) lt, nt (row ++ [j]))] := by
                rw [eb]
                unfold kvR
                rw [List.map_append]
                rfl
              have e2 : (bstep ms row lt st2 j).2.map (fun rl => nt rl.2) = st2.2.map (fun rl => nt rl.2) ++ [nt (led (ldAt ms j) lt)] := by
                rw [eb, List.map_append]
                rfl
              exact ⟨_, _, by rw [e1, e2]; rfl⟩
          · rw [hsome] at h
            have hin : led (ldAt ms j) lt ∈ st2.1.map (·.1) := by simpa using h
            have eb : bstep ms row lt st2 j = st2 := if_pos hin
            exact sx_nil ⟨_, _, by rw [eb]; rfl⟩
        · rintro G' ⟨x8, x9, rfl⟩
          rw [List.length_range]
          exact ⟨_, _, _, _, rfl⟩
      · rintro G' ⟨x4, x7, x8, x9, rfl⟩
        rw [List.take_length]
        refine sx_freeze 6 rfl ?_
        refine sx_set 3 (ex_v 6) ?_
        have q1 : (4096 - (blevel ms K L).1.length) + (if (blevel ms K L).2 = [] then 0 else 1) < (4096 - K.length) + (if L = [] then 0 else 1) := by
          have few3 := wn.kk.few
          rw [if_neg hL]
          by_cases hq : (blevel ms K L).2 = []
          · rw [if_pos hq]
            rw [hq] at hlenK
            simp at hlenK
            omega
          · rw [if_neg hq]
            have : 0 < (blevel ms K L).2.length := List.length_pos_iff.mpr hq
            omega
        exact sx_nil ⟨_, q1, (blevel ms K L).1, (blevel ms K L).2, _, _, _, _, _, _, _, wn, fun o h => hr o (.next hL hz h), rfl, rfl⟩
  · rintro m G' ⟨K, L, x1, x4, x5, x6, x7, x8, x9, w, hr, rfl, rfl⟩ hb
    have hL : L = [] := by
      cases L with
      | nil => rfl
      | cons _ _ => exact absurd (show true = false from hb) (by decide)
    subst hL
    exact ⟨K, x1, x4, x5, x6, x7, x8, x9, hr, rfl⟩
  · rintro G' ⟨K, x1, x4, x5, x6, x7, x8, x9, hr, rfl⟩
    refine sx_one (s1_ret (ED.is ex_non ?_))
    rw [mrg_of (hr none .nil)]
    rfl
end
end A8
set_option Elab.async false
set_option linter.all false
set_option maxRecDepth 100000
set_option maxHeartbeats 1000000
namespace A8
open PySem PySem.Spec PyProof.Rows L2
variable {E : En} (T : Tx E) {f : Fm} {G : List Ki} {e a b c : Expr} {es : List Expr} {pos p : Pos}
structure Sy (n : Nat) (ms : List Mv) : Prop where
  aut : Aut n ms
  good : ∀ m ∈ ms, m.good n
  ok : SumOk (0, 1) (ms.map fun m => (m.t, m.b))
  one : (ms.map fun m => (m.t, m.b)).foldl fadd (0, 1) = (1, 1)
def moveD (ms : List Mv) : Dt := .tup (ms.map Mv.d)
def spI (K : PySem.W.Frag) (C : Addr) : Sp := fun vs H Q _ => ∃ (hd : Hd) (F H0 : Hp) (x dx : Addr) (n : Nat) (ms : List Mv) (v : V), Sy n ms ∧ vs = [.ref x, .int n, v] ∧ Wd hd F H0 ∧ H0 x = none ∧ H0 dx = none ∧ dx ≠ x ∧ H = upd (upd H0 dx (.own x)) x (.ins C dx []) ∧ Rp K C F v (moveD ms) ∧
  ∀ F' H', Stp hd F H0 F' H' → Rp K C F' (.ref x) (sysD n ms) → Q .non H'
section
include T
theorem init_body (hd : Hd) (x dx : Addr) (n : Nat) (ms : List Mv) (S : Sy n ms) (c2 : Cl E 2 "is_within" R_is_within) (c4 : Cl E 4 "is_move" R_is_move) (cs : Cl E 4 "sum_of" R_sum_of) :
    SX E ⟨n_System_init, defScope s_System_init, fun _ => true, 4, hd⟩ (defBody s_System_init) [.ob x dx [], .dat (.int n), .dat (moveD ms), .un, .un, .un, .un] (fun G' => G'[0]? = some (.ob x dx [("many", .int n), ("moves", moveD ms)])) (fun _ _ => False) := by
  have A := S.aut
  have h1 := A.n1
  have h12 := A.n12
  have h24 := A.m24
  have hm1 := A.m1
  have hm : (ms.map Mv.d).length = ms.length := List.length_map ..
  obtain ⟨t1, ht1⟩ := T.mStates
  obtain ⟨t2, ht2⟩ := T.mMoves
  obtain ⟨a1, ha1, hs1⟩ := T.one
  refine sx_cons (N1 := fun G' => G' = [.ob x dx [], .dat (.int n), .dat (moveD ms), .un, .un, .un, .un]) (s1_if (td_not (td_val (ed_call c2 (ad_cons (ex_v 1) (ad_cons ex_int (ad_cons (ex_g (v := .int 12) (d := .int 12) ht1 ⟨t1, rfl⟩ fun F => .int 12) ad_nil))) ⟨.int n, 1, 12, cint, rfl, rfl⟩))) (fun h => ?_) fun h => sx_nil rfl) ?_
  · have : (Dt.int (n : Int)).within 1 12 = true := decide_eq_true ⟨by omega, by omega⟩
    rw [this] at h
    cases h
  rintro G' rfl
  refine sx_cons (N1 := fun G' => G' = [.ob x dx [], .dat (.int n), .dat (moveD ms), .un, .un, .un, .un]) (s1_if (WX.tx (wd_or (td_not (td_val (ed_isaTup T.b (ex_v 2) ctup))) fun _ => wd_or1 (td_not (td_chain_ll ex_int (ed_len T.b (ex_v 2) (.tup (ms.map Mv.d))) (ex_g (v := .int 24) (d := .int 24) ht2 ⟨t2, rfl⟩ fun F => .int 24))))) (fun h => ?_) fun h => sx_nil rfl) ?_
  · rw [hm] at h
    have : decide ((1 : Int) ≤ (ms.length : Int) ∧ (ms.length : Int) ≤ 24) = true := decide_eq_true ⟨by omega, by omega⟩
    rw [this] at h
    simp [Dt.isa, isaC, Dt.cls] at h
  rintro G' rfl
  refine sx_cons (s1_for (.two 3 4) (ms.map Mv.d).zipIdx (fun z => .tup [.int (z.2 : Nat), z.1]) (fun i G' => ∃ (x3 x4 : Ki), G' = [.ob x dx [], .dat (.int n), .dat (moveD ms), x3, x4, .un, .un]) (ixl_enum T.b (ex_v 2)) (gx_two 3 4) ⟨_, _, rfl⟩ ?_ (fun z _ => ⟨_, _, rfl⟩)) ?_
  · rintro i z hi G' ⟨x3, x4, rfl⟩
    have hz : z.1 ∈ ms.map Mv.d := by
      have := List.mem_of_getElem? hi
      exact (List.mem_zipIdx' this).2 ▸ List.getElem_mem _
    obtain ⟨z1, z2⟩ := z
    obtain ⟨m, hm', rfl⟩ := List.mem_map.mp hz
    refine sx_one (s1_if (td_not (td_val (ed_call c4 (ad_cons (ex_v 4) (ad_cons (ex_v 1) ad_nil)) ⟨n, m, h12, S.good m hm', rfl, rfl⟩))) (fun h => by cases h) fun h => sx_nil ⟨_, _, rfl⟩)
  rintro G' ⟨x3, x4, rfl⟩
  refine sx_cons (N1 := fun G' => G' = [.ob x dx [], .dat (.int n), .dat (moveD ms), x3, x4, .un, .un]) (s1_if (Rb := fun b => b = false) (tx_cmp (r := rNeD) (fun X hX => op_neD (by have := hX.un; omega)) (ex_call cs (ad_cons (ED.is (ed_lc (.two 5 6) [("share", 5), ("leads", 6)] ms Mv.d (fun m => fr m.t m.b) (ix_tupT (ex_v 2)) (gx_two 5 6) (fun m _ => ex_v 5) (by omega) (fun m _ => ⟨_, _, rfl⟩)) (d' := .lst ((ms.map fun m => (m.t, m.b)).map frp)) (by rw [List.map_map]; rfl)) ad_nil) (fun ks q => ⟨_, S.ok, by rw [List.length_map]; omega, q, rfl⟩))
    (ex_g (v := .ref a1) (d := .tuq [.int 1, .int 1]) ha1 rfl fun F => .tuq (hs1 F) (.cons (.int 1) (.cons (.int 1) .nil))) ?_ (nomark _)) (fun h => by cases h) fun h => sx_nil rfl) ?_
  · rintro ka kb ⟨d, rfl, hd⟩ rfl
    rw [S.one] at hd
    have hpy : ∀ d : Dt, IsP d (1, 1) → d.pl = true ∧ d.py = .tuple [.int 1, .int 1] := fun d hd => by
      rcases hd with rfl | rfl
      · refine ⟨?_, ?_⟩
        · rw [Dt.pl, Dt.plL, Dt.plL, Dt.plL, Dt.pl]; rfl
        · rw [Dt.py, Dt.pyL, Dt.pyL, Dt.pyL, Dt.py]
      · refine ⟨?_, ?_⟩
        · rw [Dt.pl, Dt.plL, Dt.plL, Dt.plL, Dt.pl]; rfl
        · rw [Dt.py, Dt.pyL, Dt.pyL, Dt.pyL, Dt.py]
    obtain ⟨p1, p2⟩ := hpy d hd
    obtain ⟨p3, p4⟩ := hpy (.tuq [.int 1, .int 1]) (.inr rfl)
    refine rv_neD p1 p3 ?_ ?_ ?_
    · rw [p2]; decide +kernel
    · rw [p4]; decide +kernel
    · rw [p2, p4]; decide +kernel
  rintro G' rfl
  refine sx_cons (s1_fld (fs := []) 0 T.cl T.nMany (ex_v 1) (by decide) (fun z hz => by cases hz)) ?_
  rintro G' rfl
  refine sx_one (S1.weaken (s1_fld (fs := [("many", .int n)]) 0 T.cl T.nMoves (ex_v 2) (by show 1 < 1000; decide) (fun z hz => ?_)) ?_)
  · rw [List.mem_singleton.mp hz]
    show (Str.ofString "many") ≠ Str.ofString "moves"
    decide
  · rintro G' rfl
    rfl
theorem ok_init {fa : Addr} {fd : FuncData} (c2 : Cl E 2 "is_within" R_is_within) (c4 : Cl E 4 "is_move" R_is_move) (cs : Cl E 4 "sum_of" R_sum_of) (F : Fun E.K "__init__" "System.__init__" s_System_init fa fd) : FnOk E.P E.w E.K E.mg E.base CX0 5 fa fd ["self", "many", "moves"] (spI E.K E.C) := by
  refine F.ok c_System_init (fun vs H Q XE h => ?_) (fun cdv A outer s H vs Q Ex hr h => ?_)
  · obtain ⟨_, _, _, _, _, _, _, _, _, e, _⟩ := h
    rw [e]
    rfl
  · obtain ⟨hd, F0, H0, x, dx, n, ms, v, S, rfl, w, hx, hdx, hne, rfl, rv, q⟩ := h
    refine ⟨_, init_body T hd x dx n ms S c2 c4 cs _ ⟨⟨E.C, rfl⟩, rfl, rfl, rfl, rfl, hr, rfl, c_System_init.nd⟩, ?_⟩
    have s1 := Stp.own (o := .own x) w hdx
    have hx1 : upd H0 dx (.own x) x = none := by rw [upd_ne (Ne.symm hne)]; exact hx
    have s2 := Stp.own (o := .ins E.C dx []) s1.wd hx1
    have s12 := s1.trans s2
    have nx : ∀ p c, hd = some (p, c) → x ≠ p := w.ne hx
    refine ⟨⟨H0, F0, F0⟩, F0, ⟨s12, ?_, A8.Ex.refl _, ?_, ?_, ?_⟩, fun G' σ' F' H' hn o => ?_, fun k' v' G' σ' F' H' pk => pk.elim⟩
    · refine start_ty (N := n_System_init) (ks := [.ob x dx [], .dat (.int n), .dat (moveD ms)]) (.cons ⟨rfl, [], upd_same, .nil, nx⟩ (.cons (Rp.int _) (.cons rv .nil))) (by show 3 ≤ 7; decide)
    · intro i k a e z ea
      match i, e with
      | 0, e =>
        cases e
        have : V.ref x = V.ref a := by
          have := Option.some.inj (Option.some.inj ea)
          exact this
        cases this
        exact ⟨w.ex.none hx, hx⟩
      | 1, e => cases e; exact z.elim
      | 2, e => cases e; exact z.elim
      | 3, e => cases e; exact z.elim
      | 4, e => cases e; exact z.elim
      | 5, e => cases e; exact z.elim
      | 6, e => cases e; exact z.elim
      | i + 7, e => cases e
    · intro i k e
      match i, e with
      | 0, e => cases e; trivial
      | 1, e => cases e; trivial
      | 2, e => cases e; trivial
      | 3, e => cases e; trivial
      | 4, e => cases e; trivial
      | 5, e => cases e; trivial
      | 6, e => cases e; trivial
      | i + 7, e => cases e
    · intro i j k k' a e e' z z' _ _
      have only : ∀ (i : Nat) (k : Ki), ([.ob x dx [], .dat (.int n), .dat (moveD ms), .un, .un, .un, .un] : List Ki)[i]? = some k → OwnK k → i = 0 := fun i k e z => by
        match i, e with
        | 0, _ => rfl
        | 1, e => cases e; exact z.elim
        | 2, e => cases e; exact z.elim
        | 3, e => cases e; exact z.elim
        | 4, e => cases e; exact z.elim
        | 5, e => cases e; exact z.elim
        | 6, e => cases e; exact z.elim
        | i + 7, e => cases e
      rw [only i k e z, only j k' e' z']
    · obtain ⟨v0, g1, rfl, vs, g2, g3, g4⟩ := o.ty.at hn (fun z => nomatch z)
      obtain ⟨hF, hB⟩ := o.own 0 _ x hn True.intro g1
      have st := o.st.freeze hB hF g2 g4
      refine q _ H' st ?_
      cases g3 with
      | cons r1 g3 =>
        cases g3 with
        | cons r2 g3 =>
          cases g3
          cases r1
          exact Rp.sys upd_same (r2.mono (A8.Ex.new hF))
end
/-- System(n, moves) -/
theorem ed_make {f0 : Addr} {fd : FuncData} {n : Nat} {ms : List Mv} (hmg : E.mg "System" = some (.ref E.C)) (M : Mk E.K E.C f0) (F : FnOk E.P E.w E.K E.mg E.base CX0 5 f0 fd ["self", "many", "moves"] (spI E.K E.C)) (hb : L2.Binds E.K fd ["self", "many", "moves"] []) (S : Sy n ms)
    (ha : AD E f [a, b] G [.dat (.int n), .dat (moveD ms)]) (hk : Nat.ble 6 f.k = true := by rfl) (hg : GlS f.sc "System" := by rfl)
    (he : ∀ env : Env, starEach [a, b] env = (false, eval a env) :: starEach [b] env := by intro _; rfl) (hpl : ∀ env : Env, (backTo pos (starEach [b] env)).any (·.1) = false := by intro _; rfl) : ED E f (.Call (.Name "System" p) [a, b] [] pos) G (sysD n ms) := fun X hX => by
  have g := hX.gl hg
  have ha' := ha X hX
  obtain ⟨C, rfl⟩ := hX.en
  refine pe_w (pe_make (dvs := []) M F (hX.room.mono (Nat.le_of_ble_eq_true hk)) g hmg hb .nil pass0 ha' (by decide) (he _) (hpl _)) ?_
  rintro σ H Q ⟨F0, w, t, q⟩
  refine ⟨F0, w, t, ?_⟩
  rintro ks vs F1 H1 rfl s1 ko x dx hx hdx hne
  cases ko with
  | cons k1 ko =>
    cases ko with
    | cons k2 ko =>
      cases ko
      rw [ko_int k1]
      refine ⟨f.hd, F1, H1, x, dx, n, ms, _, S, rfl, s1.wd, hx, hdx, hne, rfl, k2, fun F' H' st r => ⟨rfl, q (.dat (sysD n ms)) _ F' H' rfl (s1.trans st) r Fr.dat⟩⟩
end A8
set_option Elab.async false
set_option linter.all false
set_option maxRecDepth 100000
set_option maxHeartbeats 1000000
namespace A8
open PySem PySem.Spec PyProof.Rows L2
variable {E : En} (T : Tx E) {f : Fm} {G : List Ki} {e a b c : Expr} {es : List Expr} {pos p : Pos}
theorem ed_pow {i j : Int} (ha : ED E f a G (.int i)) (hb : ED E f b G (.int j)) (hc : CPow i j) : ED E f (.BinOp a .Pow b pos) G (.int (i ^ j.toNat)) :=
  ex_op (r := fun _ => rI CPow fun i j => .int (i ^ j.toNat)) (fun X _ => op_pow) ha hb fun ka kb e1 e2 => by
    rw [e1, e2]
    exact rv_I (d := .int (i ^ j.toNat)) rfl hc fun F => .int _
def hst (cs : List Int) (i w x n : Int) : List Dt := [.lst (cs.map Dt.int), .int i, .int w, .int x, .int n]
def HB (i w x n : Int) : Prop := 0 ≤ i ∧ 0 ≤ w ∧ 0 ≤ x ∧ x < 4294967296 ∧ 0 ≤ n
/-- the hand lies open at slot 0 -/
def HS (D : Addr) (cs : List Int) (G : List Ki) : Prop := ∃ i w x n : Int, HB i w x n ∧ G[0]? = some (.la D (hst cs i w x n))
def drawn (m : Nat) : Ki → Prop := fun k => ∃ z : Nat, z < m ∧ k = .dat (.int z)
def R_draw (ks : List Ki) (P : Ki → Prop) : Prop := ∃ m : Nat, 1 ≤ m ∧ m ≤ 1000000 ∧ ks = [.hand, .dat (.int m)] ∧ P = drawn m
section
include T
theorem draw_body (D : Addr) (cs : List Int) (hcs : ∀ z ∈ cs, 0 ≤ z) (m : Nat) (h1 : 1 ≤ m) (hm : m ≤ 1000000) (i w x n : Int) (hb : HB i w x n) :
    SX E ⟨n_L_draw, defScope s_L_draw, fun _ => true, 0, none⟩ (defBody s_L_draw) [.la D (hst cs i w x n), .dat (.int m), .un, .un, .un] (fun _ => False) (fun k G' => drawn m k ∧ HS D cs G') := by
  obtain ⟨b1, b2, b3, b4, b5⟩ := hb
  have r0 : ∀ {i w x n : Int}, atI (hst cs i w x n) ((0 : Nat) : Int) = some (.lst (cs.map Dt.int)) := fun {i w x n} => atI_at rfl
  have r1 : ∀ {i w x n : Int}, atI (hst cs i w x n) ((1 : Nat) : Int) = some (.int i) := fun {i w x n} => atI_at rfl
  have r2 : ∀ {i w x n : Int}, atI (hst cs i w x n) ((2 : Nat) : Int) = some (.int w) := fun {i w x n} => atI_at rfl
  have r3 : ∀ {i w x n : Int}, atI (hst cs i w x n) ((3 : Nat) : Int) = some (.int x) := fun {i w x n} => atI_at rfl
  have r4 : ∀ {i w x n : Int}, atI (hst cs i w x n) ((4 : Nat) : Int) = some (.int n) := fun {i w x n} => atI_at rfl
  have hlen : (cs.map Dt.int).length = cs.length := List.length_map ..
  refine sx_cons (N1 := fun G' => ∃ (i w x n : Int) (k2 : Ki), HB i w x n ∧ G' = [.la D (hst cs i w x n), .dat (.int m), k2, .un, .un]) (s1_if (WX.tx (wd_and (td_eq (ed_atA 0 (j := 2) ex_int r2) ex_int) fun _ => wd_and1 (td_lt (ed_atA 0 (j := 1) ex_int r1) (ed_len T.b (ed_atA 0 (j := 0) ex_int r0) (.lst (cs.map Dt.int)))))) (fun h => ?_) (fun h => sx_nil ⟨i, w, x, n, _, ⟨b1, b2, b3, b4, b5⟩, rfl⟩)) ?_
  · have h' := h.symm
    rw [Bool.and_eq_true, decide_eq_true_eq, decide_eq_true_eq, hlen] at h'
    obtain ⟨_, hi⟩ := h'
    obtain ⟨j, rfl⟩ := Int.eq_ofNat_of_zero_le b1
    have hj : j < cs.length := by omega
    have hc0 := hcs cs[j] (List.getElem_mem hj)
    have hcj : atI (cs.map Dt.int) ((j : Nat) : Int) = some (.int cs[j]) := atI_at (by rw [List.getElem?_map, List.getElem?_eq_getElem hj]; rfl)
    refine sx_set 2 (ed_ixL (ed_atA 0 (j := 0) ex_int r0) (ed_atA 0 (j := 1) ex_int r1) hcj) ?_
    refine sx_cons (s1_setAtA 0 1 (ed_add (ed_atA 0 (j := 1) ex_int r1) ex_int) rfl (by show 1 < 5; decide) (by show 5 ≤ 1000000; decide)) ?_
    rintro G' rfl
    refine sx_cons (s1_setAtA (ds := hst cs (j + 1) w x n) 0 3 (ed_mod (ed_toInt T.b (ed_add (ed_add (ed_mul (ed_atA (ds := hst cs (j + 1) w x n) 0 (j := 3) ex_int r3) ex_int (.inr ⟨by decide, by decide⟩)) (ex_v 2)) ex_int)) ex_int (by decide)) rfl (by show 3 < 5; decide) (by show 5 ≤ 1000000; decide)) ?_
    rintro G' rfl
    have e0 : 0 ≤ (x * 69621 + cs[j] + 11) % 2147483629 := Int.emod_nonneg _ (by decide)
    have e1 : (x * 69621 + cs[j] + 11) % 2147483629 < 2147483629 := Int.emod_lt_of_pos _ (by decide)
    refine sx_one (s1_if (td_ge (ex_v 2) (ed_pow ex_int ex_int ⟨by decide, by decide, by decide⟩)) (fun h => ?_) (fun h => sx_nil ⟨j + 1, w, (x * 69621 + cs[j] + 11) % 2147483629, n, _, ⟨by omega, b2, e0, by omega, b5⟩, rfl⟩))
    refine sx_one (S1.weaken (s1_setAtA (ds := hst cs (j + 1) w ((x * 69621 + cs[j] + 11) % 2147483629) n) 0 2 (ex_v 2) rfl (by show 2 < 5; decide) (by show 5 ≤ 1000000; decide)) ?_)
    rintro G' rfl
    exact ⟨j + 1, cs[j], (x * 69621 + cs[j] + 11) % 2147483629, n, _, ⟨by omega, hc0, e0, by omega, b5⟩, rfl⟩
  · clear b1 b2 b3 b4 b5
    rintro G' ⟨i, w, x, n, k2, ⟨b1, b2, b3, b4, b5⟩, rfl⟩
    have hm0 : (0 : Int) < m := by omega
    refine sx_cons (N1 := fun G' => G' = [.la D (hst cs i w x n), .dat (.int m), k2, .un, .un]) (s1_if (td_gt (ed_atA 0 (j := 2) ex_int r2) ex_int) (fun h => ?_) (fun h => sx_nil rfl)) ?_
    · refine sx_set 3 (ed_mod (ed_toInt T.b (ed_atA 0 (j := 2) ex_int r2)) (ex_v 1) hm0) ?_
      refine sx_cons (s1_setAtA (ds := hst cs i w x n) 0 2 (ed_div (ed_atA (ds := hst cs i w x n) 0 (j := 2) ex_int r2) (ex_v 1) ⟨hm0, by omega⟩) rfl (by show 2 < 5; decide) (by show 5 ≤ 1000000; decide)) ?_
      rintro G' rfl
      have e0 := Int.emod_nonneg w (show (m : Int) ≠ 0 by omega)
      have e1 := Int.emod_lt_of_pos w hm0
      obtain ⟨z, hz⟩ := Int.eq_ofNat_of_zero_le e0
      refine sx_one (s1_ret ((ex_v 3).weaken fun k hk => ⟨⟨z, by omega, by rw [hk, hz]⟩, i, w / m, x, n, ⟨b1, Int.ediv_nonneg b2 (by omega), b3, b4, b5⟩, rfl⟩))
    · rintro G' rfl
      refine sx_cons (s1_setAtA (ds := hst cs i w x n) 0 4 (ed_add (ed_atA (ds := hst cs i w x n) 0 (j := 4) ex_int r4) ex_int) rfl (by show 4 < 5; decide) (by show 5 ≤ 1000000; decide)) ?_
      rintro G' rfl
      refine sx_set 4 (ed_mod (ed_toInt T.b (ed_mul (ed_toInt T.b (ed_add (ed_atA (ds := hst cs i w x (n + 1)) 0 (j := 3) ex_int r3) (ed_mul ex_int (ed_atA (ds := hst cs i w x (n + 1)) 0 (j := 4) ex_int r4) (.inl ⟨by decide, by decide⟩)))) ex_int (.inr ⟨by decide, by decide⟩))) ex_int (by decide)) ?_
      refine sx_set 4 (ed_mod (ed_toInt T.b (ed_mul (ex_v 4) (ed_add (ed_div (ex_v 4) ex_int ⟨by decide, by decide⟩) ex_int) (.inl ?_))) ex_int (by decide)) ?_
      · have e0 := Int.emod_nonneg ((x + 7919 * (n + 1)) * 48271) (show (2147483647 : Int) ≠ 0 by decide)
        have e1 := Int.emod_lt_of_pos ((x + 7919 * (n + 1)) * 48271) (show (0 : Int) < 2147483647 by decide)
        omega
      generalize ((x + 7919 * (n + 1)) * 48271) % 2147483647 = q1
      refine sx_set 4 (ed_mod (ed_toInt T.b (ed_mul (ex_v 4) (ed_add (ed_div (ex_v 4) ex_int ⟨by decide, by decide⟩) ex_int) (.inl ?_))) ex_int (by decide)) ?_
      · have e0 := Int.emod_nonneg (q1 * (q1 / 1009 + 69621)) (show (2147483647 : Int) ≠ 0 by decide)
        have e1 := Int.emod_lt_of_pos (q1 * (q1 / 1009 + 69621)) (show (0 : Int) < 2147483647 by decide)
        omega
      generalize (q1 * (q1 / 1009 + 69621)) % 2147483647 = q2
      generalize hq : q2 * (q2 / 2003 + 40692) % 2147483399 / 16 = q3
      have e0 := Int.emod_nonneg q3 (show (m : Int) ≠ 0 by omega)
      have e1 := Int.emod_lt_of_pos q3 hm0
      obtain ⟨z, hz⟩ := Int.eq_ofNat_of_zero_le e0
      refine sx_one (s1_ret (EX.weaken (ed_mod (ed_toInt T.b (ed_div (ex_v 4) ex_int ⟨by decide, by decide⟩)) (ex_v 1) hm0) fun k hk => ⟨⟨z, by omega, by rw [hk, hq, hz]⟩, i, w, x, n + 1, ⟨b1, b2, b3, b4, by omega⟩, rfl⟩))
end
end A8
set_option Elab.async false
set_option linter.all false
set_option maxRecDepth 100000
set_option maxHeartbeats 1000000
namespace A8
open PySem PySem.Spec PyProof.Rows L2
variable {E : En} (T : Tx E) {f : Fm} {G : List Ki} {e a b c : Expr} {es : List Expr} {pos p : Pos}
theorem own0 {k0 : Ki} {rest : List Ki} (h : ∀ k ∈ rest, ¬ OwnK k ∧ KeepK k) : (∀ (i : Nat) (k : Ki), (k0 :: rest)[i]? = some k → OwnK k → i = 0 ∧ k = k0) ∧ (KeepK k0 → ∀ (i : Nat) (k : Ki), (k0 :: rest)[i]? = some k → KeepK k) := by
  constructor
  · intro i k e z
    cases i with
    | zero => cases e; exact ⟨rfl, rfl⟩
    | succ i => exact absurd z (h k (List.mem_of_getElem? (by simpa using e))).1
  · intro hk i k e
    cases i with
    | zero => cases e; exact hk
    | succ i => exact (h k (List.mem_of_getElem? (by simpa using e))).2
theorem rest_un (l : List Ki) (n : Nat) (h : ∀ k ∈ l, ∃ d, k = .dat d) : ∀ k ∈ l ++ List.replicate n .un, ¬ OwnK k ∧ KeepK k := fun k hk => by
  rcases List.mem_append.mp hk with q | q
  · obtain ⟨d, rfl⟩ := h k q
    exact ⟨fun z => z, True.intro⟩
  · rw [(List.mem_replicate.mp q).2]
    exact ⟨fun z => z, True.intro⟩
section
include T
theorem ok_draw {fa : Addr} {fd : FuncData} (F : Fun E.K "_law_draw" "_law_draw" s_L_draw fa fd) : FnOk E.P E.w E.K E.mg E.base CX0 1 fa fd ["_law_hand_here", "_law_many"] (spG E.K E.C R_draw) := by
  refine F.ok c_L_draw (fun vs H Q XE h => ?_) (fun cdv A outer s H vs Q Ex0 hr h => ?_)
  · obtain ⟨hd, F0, ks, P, ⟨m, _, _, rfl, _⟩, w, ko, _⟩ := h
    rw [← ko.length]
    rfl
  · obtain ⟨hd, F0, ks, P, ⟨m, h1, hm, rfl, rfl⟩, w, ko, q⟩ := h
    cases ko with
    | @cons _ v0 _ _ k1 ko =>
      cases ko with
      | @cons _ v1 _ _ k2 ko =>
        cases ko
        obtain ⟨p, c, hpc, rfl⟩ := k1
        rw [ko_int k2]
        obtain ⟨hF, c', ⟨i, w', x, n, hH, hb⟩, cs, hc, hcs⟩ := w.hand p c hpc
        refine ⟨_, draw_body T p cs hcs m h1 hm i w' x n hb _ ⟨⟨E.C, rfl⟩, rfl, rfl, rfl, rfl, hr, rfl, c_L_draw.nd⟩, ?_⟩
        let H0 : Hp := fun a => if a = p then none else H a
        have hp0 : H0 p = none := if_pos rfl
        have hne : ∀ a, a ≠ p → H0 a = H a := fun a z => if_neg z
        have st0 : Stp none F0 H0 F0 H := by
          refine ⟨fun a o _ e => ?_, ⟨A8.Ex.refl _, fun _ _ _ => rfl⟩, w.ex, fun p c e => nomatch e⟩
          by_cases z : a = p
          · rw [z, hp0] at e; cases e
          · rw [hne a z] at e; exact e
        have o0 := own0 (k0 := .la p (hst cs i w' x n)) (rest := [.dat (.int m), .un, .un, .un]) (rest_un [.dat (.int m)] 3 fun k hk => by rw [List.mem_singleton.mp hk]; exact ⟨_, rfl⟩)
        refine ⟨⟨H0, F0, F0⟩, F0, ⟨st0, ?_, A8.Ex.refl _, fun i k a e z ea => ?_, o0.2 True.intro, fun i j k k' a e e' z z' _ _ => ?_⟩, fun G' σ' F' H' hn => hn.elim, fun k v G' σ' F' H' pk o kv fr => ?_⟩
        · refine start_ty (N := n_L_draw) (ks := [.la p (hst cs i w' x n), .dat (.int m)]) (.cons ⟨rfl, _, hH, ?_, fun _ _ e => nomatch e⟩ (.cons (Rp.int _) .nil)) (by show 2 ≤ 5; decide)
          exact .cons (.lst hc (RpL.of_ints cs)) (.cons (.int _) (.cons (.int _) (.cons (.int _) (.cons (.int _) .nil))))
        · obtain ⟨rfl, rfl⟩ := o0.1 i k e z
          have : V.ref p = V.ref a := Option.some.inj (Option.some.inj ea)
          cases this
          exact ⟨hF, hp0⟩
        · rw [(o0.1 i k e z).1, (o0.1 j k' e' z').1]
        · obtain ⟨⟨z, hz, rfl⟩, i2, w2, x2, n2, hb2, hg⟩ := pk
          obtain ⟨v3, g1, rfl, xs, g2, g3, g4⟩ := o.ty.at hg (fun z => nomatch z)
          obtain ⟨f1, f2⟩ := o.own 0 _ p hg True.intro g1
          refine q _ v F' H' ⟨z, hz, rfl⟩ ⟨fun a u na e => ?_, ⟨o.st.e.1, fun a u e => ?_⟩, o.st.wd.ex, fun p' c2 e => ?_⟩ kv Fr.dat
          · have nap : a ≠ p := na p c hpc
            exact o.st.b a u (fun _ _ e => nomatch e) (by show H0 a = some u; rw [hne a nap]; exact e)
          · by_cases z : a = p
            · rw [z, f1, hF]
            · exact o.st.e.2 a u (by show H0 a = some u; rw [hne a z]; exact e)
          · rw [hpc] at e
            cases e
            cases g3 with
            | cons r0 g3 =>
              cases g3 with
              | cons r1 g3 =>
                cases g3 with
                | cons r2 g3 =>
                  cases g3 with
                  | cons r3 g3 =>
                    cases g3 with
                    | cons r4 g3 =>
                      cases g3
                      cases r0 with
                      | @lst c3 ys _ h5 h6 =>
                        cases r1
                        cases r2
                        cases r3
                        cases r4
                        rw [RpL.ints cs h6] at h5
                        exact ⟨f1, c3, ⟨i2, w2, x2, n2, g2, hb2⟩, cs, h5, hcs⟩
end
end A8
set_option Elab.async false
set_option linter.all false
set_option maxRecDepth 100000
set_option maxHeartbeats 1000000
namespace A8
open PySem PySem.Spec PyProof.Rows L2
variable {E : En} (T : Tx E) {f : Fm} {G : List Ki} {e a b c : Expr} {es : List Expr} {pos p : Pos}
theorem noOwn_hand {ks : List Ki} (ds : List Dt) (h : ks = .hand :: ds.map Ki.dat) : noOwn ks := fun k hk => by
  rw [h] at hk
  rcases List.mem_cons.mp hk with e | hk
  · rw [e]; exact ⟨fun z => z, True.intro⟩
  · obtain ⟨d, _, rfl⟩ := List.mem_map.mp hk
    exact ⟨fun z => z, True.intro⟩
theorem ei_draw (c1 : Cl E 1 "_law_draw" R_draw) {m : Nat} (ha : EX E f a G (fun k => k = .hand)) (hb : ED E f b G (.int (m : Int))) (h1 : 1 ≤ m) (hm : m ≤ 1000000) (hk : Nat.ble 1 f.k = true := by rfl) (hg : GlS f.sc "_law_draw" := by rfl)
    (he : ∀ env : Env, starEach [a, b] env = (false, eval a env) :: starEach [b] env := by intro _; rfl) (hs : ∀ env : Env, starEach [b] env = (false, eval b env) :: starEach [] env := by intro _; rfl) (hpl : ∀ env : Env, (backTo pos (starEach [b] env)).any (·.1) = false := by intro _; rfl) :
    EI E f (.Call (.Name "_law_draw" p) [a, b] [] pos) G (fun z => 0 ≤ z ∧ z < m) :=
  EX.weaken (ex_call (R := drawn m) c1 (ad_k ha (ad_cons hb ad_nil hs) he) (fun ks q => ⟨m, h1, hm, q, rfl⟩) hk hg (by decide) he hpl) fun k ⟨z, hz, e⟩ => ⟨z, ⟨by omega, by omega⟩, e⟩
theorem natsD_snoc (l : List Nat) (n : Nat) : natsD (l ++ [n]) = natsD l ++ [.int (n : Int)] := by unfold natsD; rw [List.map_append]; rfl
def R_any (ks : List Ki) (P : Ki → Prop) : Prop := ∃ (d0 : Dt) (l : List Dt), (d0 = .lst l ∨ d0 = .tup l) ∧ 1 ≤ l.length ∧ l.length ≤ 1000000 ∧ ks = [.hand, .dat d0] ∧ P = fun k => ∃ d ∈ l, k = .dat d
def R_low (ks : List Ki) (P : Ki → Prop) : Prop := ∃ a b : Int, 0 < b ∧ b < 1073741824 ∧ ks = [.dat (.int a), .dat (.int b)] ∧ P = A8.one (frp (frl a b))
def R_led (ks : List Ki) (P : Ki → Prop) : Prop := ∃ (n : Nat) (ld l : List Nat), n ≤ 12 ∧ ld.length = n ∧ (∀ x ∈ ld, x < n) ∧ (∀ x ∈ l, x < n) ∧ l.length < 64 ∧ ks = [.dat (nt ld), .dat (nt l)] ∧ P = A8.one (nt (led ld l))
/-- leads of n states -/
def IsLd (n : Nat) (ld : List Nat) : Prop := ld.length = n ∧ ∀ x ∈ ld, x < n
def R_halved (ks : List Ki) (P : Ki → Prop) : Prop := ∃ (n : Nat) (ld : List Nat), 1 ≤ n ∧ n ≤ 12 ∧ IsLd n ld ∧ ks = [.dat (nt ld)] ∧ P = fun k => ∃ ld', IsLd n ld' ∧ k = .dat (nt ld')
def R_leads (ks : List Ki) (P : Ki → Prop) : Prop := ∃ n : Nat, 1 ≤ n ∧ n ≤ 12 ∧ ks = [.hand, .dat (.int n)] ∧ P = fun k => ∃ ld', IsLd n ld' ∧ k = .dat (nt ld')
def tops : List Int := [1, 1, 1, 2, 3, 5]
def R_parts (ks : List Ki) (P : Ki → Prop) : Prop := ∃ n : Nat, 1 ≤ n ∧ n ≤ 12 ∧ ks = [.hand, .dat (.int n)] ∧ P = fun k => ∃ ts : List Int, ts.length = n ∧ (∀ t ∈ ts, t ∈ tops) ∧ k = .dat (.lst (ts.map fun t => frp (frl t ts.sum)))
theorem gcdI_eq (a b : Int) : gcdI a b = ((Nat.gcd a.natAbs b.natAbs : Nat) : Int) := rfl
section
include T
theorem ok_any {fa : Addr} {fd : FuncData} (c1 : Cl E 1 "_law_draw" R_draw) (F : Fun E.K "_law_any" "_law_any" s_L_any fa fd) : FnOk E.P E.w E.K E.mg E.base CX0 2 fa fd ["_law_hand_here", "_law_items"] (spG E.K E.C R_any) := by
  refine fn_ok F c_L_any (fun ks P ⟨_, _, _, _, _, e, _⟩ => by rw [e]; rfl) (fun ks P ⟨d0, _, _, _, _, e, _⟩ => noOwn_hand [d0] e) fun hd ks P h => ?_
  obtain ⟨d0, l, hd0, h1, h2, rfl, rfl⟩ := h
  have hat : ∀ i : Int, (0 ≤ i ∧ i < l.length) → ∃ x, atI l i = some x ∧ ∃ d ∈ l, Ki.dat x = Ki.dat d := fun i ⟨i0, i1⟩ => by
    obtain ⟨j, rfl⟩ := Int.eq_ofNat_of_zero_le i0
    have hj : j < l.length := by omega
    exact ⟨l[j], atI_at (List.getElem?_eq_getElem hj), l[j], List.getElem_mem hj, rfl⟩
  rcases hd0 with rfl | rfl
  · exact sx_one (s1_ret (ex_ixL (ex_v 1) (fun F H v w k => by cases (show Rp E.K E.C F _ (.lst l) from k) with | lst h r => exact ⟨_, _, rfl, SqL.of (w.ex _ _ h), r⟩) (ei_draw c1 (ex_hand 0) (ed_len T.b (ex_v 1) (.lst l)) h1 h2) hat))
  · exact sx_one (s1_ret (ex_ixT (ex_v 1) (.inl rfl) (ei_draw c1 (ex_hand 0) (ed_len T.b (ex_v 1) (.tup l)) h1 h2) hat))
theorem ok_low {fa : Addr} {fd : FuncData} (F : Fun E.K "_law_low" "_law_low" s_L_low fa fd) : FnOk E.P E.w E.K E.mg E.base CX0 1 fa fd ["_law_top", "_law_bottom"] (spG E.K E.C R_low) := by
  refine fn_ok F c_L_low (fun ks P ⟨_, _, _, _, e, _⟩ => by rw [e]; rfl) (fun ks P ⟨a, b, _, _, e, _⟩ => noOwn_dat [.int a, .int b] e) fun hd ks P h => ?_
  obtain ⟨a, b, h0, h1, rfl, rfl⟩ := h
  obtain ⟨b', rfl⟩ := Int.eq_ofNat_of_zero_le (by omega : 0 ≤ b)
  refine sx_cons (s1_par 2 3 (ed_abs T.b (ex_v 0)) (ex_v 1) (fun k h => by rw [h]; trivial) (fun k h => by rw [h]; trivial)) ?_
  rintro G' ⟨k, k', rfl, rfl, rfl⟩
  refine sx_cons (N1 := fun G' => G' = [.dat (.int a), .dat (.int b'), .dat (.int (gcdI a b')), .dat (.int 0)]) (s1_while (fun m G' => ∃ x : Nat, Nat.gcd x m = Nat.gcd a.natAbs b' ∧ G' = [.dat (.int a), .dat (.int b'), .dat (.int x), .dat (.int m)]) b' ⟨a.natAbs, rfl, rfl⟩ (fun m _ => decide (0 < m)) ?_ ?_ ?_) ?_
  · rintro m G' ⟨x, hx, rfl⟩
    exact (td_gt (ex_v 3) ex_int).weaken fun c h => by rw [h]; simp
  · rintro m G' ⟨x, hx, rfl⟩ hm
    have hm' : 0 < m := of_decide_eq_true hm
    refine sx_cons (s1_par 2 3 (ex_v 3) (ed_mod (ed_toInt T.b (ex_v 2)) (ex_v 3) (by omega)) (fun k h => by rw [h]; trivial) (fun k h => by rw [h]; trivial)) ?_
    rintro G' ⟨k, k', rfl, rfl, rfl⟩
    refine sx_nil ⟨x % m, Nat.mod_lt _ hm', m, ?_, ?_⟩
    · rw [← hx, Nat.gcd_comm m (x % m), ← Nat.gcd_rec, Nat.gcd_comm]
    · rfl
  · rintro m G' ⟨x, hx, rfl⟩ hm
    have hm' : m = 0 := by simpa using hm
    subst hm'
    rw [Nat.gcd_zero_right] at hx
    rw [gcdI_eq, Int.natAbs_natCast, ← hx]
    rfl
  · rintro G' rfl
    have g := gcdI_pos (a := a) h0
    exact sx_one (s1_ret (ed_tup (ds := [.int (a / gcdI a b'), .int ((b' : Int) / gcdI a b')]) (ad_cons (ed_div (ex_v 0) (ex_v 2) ⟨g.1, by omega⟩) (ad_cons (ed_div (ex_v 1) (ex_v 2) ⟨g.1, by omega⟩) ad_nil))))
theorem ok_Lled {fa : Addr} {fd : FuncData} (F : Fun E.K "_law_led" "_law_led" s_L_led fa fd) : FnOk E.P E.w E.K E.mg E.base CX0 1 fa fd ["_law_leads_here", "_law_lot"] (spG E.K E.C R_led) := by
  refine fn_ok F c_L_led (fun ks P ⟨_, _, _, _, _, _, _, _, e, _⟩ => by rw [e]; rfl) (fun ks P ⟨n, ld, l, _, _, _, _, _, e, _⟩ => noOwn_dat [nt ld, nt l] e) fun hd ks P h => ?_
  obtain ⟨n, ld, l, hn, g1, g2, hl, hl64, rfl, rfl⟩ := h
  refine sx_one (s1_ret (ed_tuple T.b (ed_sortedSet T.b (ed_lcN 2 [("_law_state", 2)] l (go ld) (ix_tupT (ex_v 1)) (gx_one 2) (fun s hs => ?_) (by omega)) (.inl rfl) ?_ (by rw [List.length_map]; exact hl64))))
  · exact ed_ixT (ex_v 0) (ex_v 2) (atI_go g1 g2 (hl s hs))
  · intro x hx
    obtain ⟨y, hy, rfl⟩ := List.mem_map.mp hx
    have := (go_lt g1 g2 (hl y hy)).1
    omega
theorem ok_halved {fa : Addr} {fd : FuncData} (F : Fun E.K "_law_halved" "_law_halved" s_L_halved fa fd) : FnOk E.P E.w E.K E.mg E.base CX0 1 fa fd ["_law_leads_here"] (spG E.K E.C R_halved) := by
  refine fn_ok F c_L_halved (fun ks P ⟨_, _, _, _, _, e, _⟩ => by rw [e]; rfl) (fun ks P ⟨n, ld, _, _, _, e, _⟩ => noOwn_dat [nt ld] e) fun hd ks P h => ?_
  obtain ⟨n, ld, h1, h12, ⟨g1, g2⟩, rfl, rfl⟩ := h
  refine sx_set 1 (eo_lst (ds := []) ad_nil) ?_
  refine sx_cons (s1_for (.one 2) (List.range n) (fun m : Nat => .int (m : Int)) (fun i G' => ∃ (fs : List Nat) (x2 x3 : Ki), fs.length = i ∧ (∀ x ∈ fs, x < n) ∧ G' = [.dat (nt ld), .ol (natsD fs), x2, x3]) (ixl_range T.b (ED.is (ed_len T.b (ex_v 0) (.tup (natsD ld))) (by rw [natsD_len, g1])) (by omega)) (gx_one 2) ⟨[], _, _, rfl, (fun x hx => nomatch hx), rfl⟩ ?_) ?_
  · rintro i s hi G' ⟨fs, x2, x3, hfl, hf, rfl⟩
    obtain ⟨hil, his⟩ := List.getElem?_eq_some_iff.mp hi
    rw [List.length_range] at hil
    rw [List.getElem_range] at his
    subst his
    obtain ⟨z1, z2⟩ := go_lt g1 g2 hil
    have e1 : ((go ld i : Nat) : Int) / 2 * 2 + (i : Int) % 2 = ((go ld i / 2 * 2 + i % 2 : Nat) : Int) := by omega
    refine sx_set 3 (ED.is (ed_add (ed_mul (ed_div (ed_ixT (ex_v 0) (ex_v 2) (atI_go g1 g2 hil)) ex_int ⟨by decide, by decide⟩) ex_int (.inr ⟨by decide, by decide⟩)) (ed_mod (ed_toInt T.b (ex_v 2)) ex_int (by decide))) (by rw [e1])) ?_
    generalize go ld i / 2 * 2 + i % 2 = t
    refine sx_one (S1.weaken (s1_append (R := fun k => ∃ y : Nat, y < n ∧ k = .dat (.int y)) 1 (ex_if (td_lt (ex_v 3) (ed_len T.b (ex_v 0) (.tup (natsD ld)))) (fun h => (ex_v 3).weaken fun k hk => ⟨t, ?_, hk⟩) (fun h => (ex_v 2).weaken fun k hk => ⟨i, hil, hk⟩)) (fun k hk => by obtain ⟨y, _, rfl⟩ := hk; exact ⟨_, rfl⟩) rfl (by rw [natsD_len]; omega)) ?_)
    · have := of_decide_eq_true h.symm
      rw [natsD_len, g1] at this
      omega
    · rintro G' ⟨d, ⟨y, hy, hd⟩, rfl⟩
      cases hd
      have hx' : ∀ x ∈ fs ++ [y], x < n := fun x hx => by
        rcases List.mem_append.mp hx with q | q
        · exact hf x q
        · rw [List.mem_singleton.mp q]; exact hy
      exact ⟨fs ++ [y], _, _, by rw [List.length_append, hfl]; rfl, hx', by rw [natsD_snoc]; rfl⟩
  · rintro G' ⟨fs, x2, x3, hfl, hf, rfl⟩
    rw [List.length_range] at hfl
    exact sx_one (s1_ret ((ed_tupleV T.b (ex_vl 1)).weaken fun k hk => ⟨fs, ⟨hfl, hf⟩, hk⟩))
end
end A8
set_option Elab.async false
set_option linter.all false
set_option maxRecDepth 100000
set_option maxHeartbeats 1000000
namespace A8
open PySem PySem.Spec PyProof.Rows L2
variable {E : En} (T : Tx E) {f : Fm} {G : List Ki} {e a b c : Expr} {es : List Expr} {pos p : Pos}
theorem map_erase {α β : Type} (g : α → β) : ∀ (l : List α) (n : Nat), (l.eraseIdx n).map g = (l.map g).eraseIdx n
  | [], _ => rfl
  | _ :: _, 0 => rfl
  | x :: l, n + 1 => by
    rw [List.eraseIdx_cons_succ, List.map_cons, List.map_cons, List.eraseIdx_cons_succ, map_erase g l n]
theorem natsD_erase (l : List Nat) (n : Nat) : natsD (l.eraseIdx n) = (natsD l).eraseIdx n := map_erase _ l n
theorem natsD_set (l : List Nat) (n x : Nat) : natsD (l.set n x) = (natsD l).set n (.int (x : Int)) := by unfold natsD; rw [List.map_set]
theorem lc_nats {α : Type} {Q : α → Nat → Prop} {l : List α} {ds : List Dt} (h : LcOut (fun (_ : α) b => b = true) (fun x d => ∃ z : Nat, Q x z ∧ d = .int (z : Int)) l ds) : ∃ zs : List Nat, zs.length = l.length ∧ ds = natsD zs ∧ ∀ z ∈ zs, ∃ x ∈ l, Q x z := by
  induction h with
  | nil => exact ⟨[], rfl, rfl, fun z hz => nomatch hz⟩
  | no _ r _ => cases r
  | @yes x l ds d _ _ r ih =>
    obtain ⟨zs, h1, h2, h3⟩ := ih
    obtain ⟨z, hz, rfl⟩ := r
    refine ⟨zs ++ [z], by rw [List.length_append, List.length_append, h1]; rfl, by rw [natsD_snoc, h2], fun y hy => ?_⟩
    rcases List.mem_append.mp hy with q | q
    · obtain ⟨x', hx', hq⟩ := h3 y q
      exact ⟨x', List.mem_append_left _ hx', hq⟩
    · rw [List.mem_singleton.mp q]
      exact ⟨x, List.mem_append_right _ List.mem_cons_self, hz⟩
section
include T
theorem ok_leads {fa : Addr} {fd : FuncData} (c1 : Cl E 1 "_law_draw" R_draw) (F : Fun E.K "_law_leads" "_law_leads" s_L_leads fa fd) : FnOk E.P E.w E.K E.mg E.base CX0 2 fa fd ["_law_hand_here", "_law_many"] (spG E.K E.C R_leads) := by
  refine fn_ok F c_L_leads (fun ks P ⟨_, _, _, e, _⟩ => by rw [e]; rfl) (fun ks P ⟨n, _, _, e, _⟩ => noOwn_hand [.int n] e) fun hd ks P h => ?_
  obtain ⟨n, h1, h12, rfl, rfl⟩ := h
  refine sx_cons (s1_par 2 3 (ei_draw c1 (m := 4) (ex_hand 0) ex_int (by decide) (by decide)) (eo_listRange T.b (ex_v 1) (by omega)) (fun k h => by obtain ⟨i, _, rfl⟩ := h; trivial) (fun k h => by rw [h]; trivial)) ?_
  rintro G' ⟨k, k', ⟨kd, hkd, rfl⟩, rfl, rfl⟩
  refine sx_cons (N1 := fun G' => G' = [.hand, .dat (.int n), .dat (.int kd), .ol (natsD (List.range n)), .un, .un, .un, .un, .un]) (s1_if (td_eq (ex_v 2) ex_int) (fun h => ?_) (fun h => sx_nil rfl)) ?_
  · refine sx_set 4 (eo_lst (ds := []) ad_nil) ?_
    refine sx_cons (s1_for (.one 5) (List.range n) (fun m : Nat => .int (m : Int)) (fun i G' => ∃ (fs ss : List Nat) (x5 : Ki), fs.length = i ∧ ss.length = n - i ∧ (∀ x ∈ fs, x < n) ∧ (∀ x ∈ ss, x < n) ∧ G' = [.hand, .dat (.int n), .dat (.int kd), .ol (natsD ss), .ol (natsD fs), x5, .un, .un, .un]) (ixl_range T.b (ex_v 1) (by omega)) (gx_one 5) ⟨[], List.range n, _, rfl, by rw [List.length_range]; omega, (fun x hx => nomatch hx), fun x hx => List.mem_range.mp hx, rfl⟩ ?_) ?_
    · rintro i s hi G' ⟨fs, ss, x5, hfl, hsl, hf, hs, rfl⟩
      obtain ⟨hil, his⟩ := List.getElem?_eq_some_iff.mp hi
      rw [List.length_range] at hil
      refine sx_one (S1.weaken (s1_appPop (ds := natsD fs) (l := natsD ss) 4 3 (ei_draw c1 (m := ss.length) (ex_hand 0) (ED.is (ed_lenV T.b (ex_vl 3)) (by rw [natsD_len])) (by omega) (by omega)) (fun k hk => by rw [natsD_len]; exact hk) (by decide) rfl rfl (by rw [natsD_len]; omega) (by rw [natsD_len]; omega)) ?_)
      rintro G' ⟨k, d, hk, hd', rfl⟩
      have hkl : k < ss.length := by omega
      have hd2 : d = .int (ss[k] : Nat) := by
        unfold natsD at hd'
        rw [List.getElem?_map, List.getElem?_eq_getElem hkl] at hd'
        exact (Option.some.inj hd').symm
      have hmem := List.getElem_mem hkl
      have hx' : ∀ x ∈ fs ++ [ss[k]], x < n := fun x hx => by
        rcases List.mem_append.mp hx with q | q
        · exact hf x q
        · rw [List.mem_singleton.mp q]; exact hs _ hmem
      exact ⟨fs ++ [ss[k]], ss.eraseIdx k, _, by rw [List.length_append, hfl]; rfl, by rw [List.length_eraseIdx_of_lt hkl]; omega, hx', fun x hx => hs x (List.mem_of_mem_eraseIdx hx), by rw [natsD_snoc, natsD_erase, hd2]; rfl⟩
    · rintro G' ⟨fs, ss, x5, hfl, hsl, hf, hs, rfl⟩
      rw [List.length_range] at hfl
      exact sx_one (s1_ret ((ed_tupleV T.b (ex_vl 4)).weaken fun k hk => ⟨fs, ⟨hfl, hf⟩, hk⟩))
  rintro G' rfl
  refine sx_cons (N1 := fun G' => G' = [.hand, .dat (.int n), .dat (.int kd), .ol (natsD (List.range n)), .un, .un, .un, .un, .un]) (s1_if (td_eq (ex_v 2) ex_int) (fun h => ?_) (fun h => sx_nil rfl)) ?_
  · refine sx_cons (s1_parMove (ds := natsD (List.range n)) 4 6 3 rfl (by show 4 < 9; decide) (ei_draw c1 (m := n) (ex_hand 0) (ex_v 1) h1 (by omega)) (fun k hk => by obtain ⟨i, _, rfl⟩ := hk; exact ⟨_, rfl⟩)) ?_
    rintro G' ⟨k', ⟨i, ⟨hi0, hi1⟩, rfl⟩, rfl⟩
    obtain ⟨j, rfl⟩ := Int.eq_ofNat_of_zero_le hi0
    refine sx_cons (s1_setAt (ds := natsD (List.range n)) 4 (ei_draw c1 (m := n) (ex_hand 0) (ex_v 1) h1 (by omega)) (fun k hk => by obtain ⟨i, _, rfl⟩ := hk; exact ⟨_, rfl⟩) (ED.ii (ex_v 6)) (fun q hq => by rw [hq, natsD_len, List.length_range]; omega) rfl (by rw [natsD_len, List.length_range]; omega)) ?_
    rintro G' ⟨d, j', ⟨z, ⟨hz0, hz1⟩, hd'⟩, _, rfl⟩
    cases hd'
    obtain ⟨y, rfl⟩ := Int.eq_ofNat_of_zero_le hz0
    refine sx_one (s1_ret ((ed_tupleV (l := natsD ((List.range n).set j' y)) T.b (by rw [natsD_set]; exact ex_vl 4)).weaken fun k hk => ⟨(List.range n).set j' y, ⟨by rw [List.length_set, List.length_range], fun x hx => ?_⟩, hk⟩))
    rcases List.mem_or_eq_of_mem_set hx with q | q
    · exact List.mem_range.mp q
    · rw [q]; omega
  rintro G' rfl
  refine sx_freeze 3 rfl ?_
  refine sx_cons (N1 := fun G' => G' = [.hand, .dat (.int n), .dat (.int kd), .dat (.lst (natsD (List.range n))), .un, .un, .un, .un, .un]) (s1_if (td_eq (ex_v 2) ex_int) (fun h => ?_) (fun h => sx_nil rfl)) ?_
  · refine sx_cons (s1_set 7 (ei_sub (ei_draw c1 (m := 3) (ex_hand 0) ex_int (by decide) (by decide)) (ED.ii ex_int)) (fun k hk => by obtain ⟨i, _, rfl⟩ := hk; trivial)) ?_
    rintro G' ⟨k, ⟨by', _, rfl⟩, rfl⟩
    have e1 : ∀ s : Nat, min (max ((s : Int) + by') 0) ((n : Int) - 1) = ((min (max ((s : Int) + by') 0) ((n : Int) - 1)).toNat : Int) := fun s => by omega
    refine sx_one (s1_ret ((ed_tuple T.b (ed_lcN 8 [("_law_state", 8)] (List.range n) (fun s => (min (max ((s : Int) + by') 0) ((n : Int) - 1)).toNat) (ix_lst (ex_v 3)) (gx_one 8) (fun s hs => ED.is (ed_min T.b (ed_max T.b (ed_add (ex_v 8) (ex_v 7)) ex_int) (ed_sub (ex_v 1) ex_int)) (by rw [← e1])) (by rw [List.length_range]; omega))).weaken fun k hk => ⟨_, ⟨by rw [List.length_map, List.length_range], fun x hx => ?_⟩, hk⟩))
    obtain ⟨s, _, rfl⟩ := List.mem_map.mp hx
    omega
  rintro G' rfl
  refine sx_one (s1_ret ((ex_tupleS (S := fun l => ∃ ld', IsLd n ld' ∧ l = natsD ld') T.b ((ex_lc (.one 8) [("_law_state", 8)] (fun l => l = List.range n) (fun s : Nat => .int (s : Int)) (fun _ b => b = true) (fun _ d => ∃ z : Nat, z < n ∧ d = .int (z : Int)) (IX.weaken (ix_lst (ex_v 3)) fun ds h => ⟨_, rfl, h⟩) (gx_one 8) (fun _ _ _ _ => tsx_nil) (fun l hl x hx _ => (ei_draw c1 (m := n) (ex_hand 0) (ex_v 1) h1 (by omega)).weaken fun k hk => ?_) (fun _ _ _ _ => trivial) (fun l hl => by rw [hl, List.length_range]; omega)).weaken fun k hk => ?_)).weaken fun k hk => ?_))
  · obtain ⟨i, ⟨i0, i1⟩, rfl⟩ := hk
    obtain ⟨z, rfl⟩ := Int.eq_ofNat_of_zero_le i0
    exact ⟨_, ⟨z, by omega, rfl⟩, rfl⟩
  · obtain ⟨l, ds, rfl, out, rfl⟩ := hk
    obtain ⟨zs, z1, z2, z3⟩ := lc_nats (Q := fun _ z => z < n) out
    refine ⟨ds, ⟨zs, ⟨by rw [z1, List.length_range], fun z hz => ?_⟩, z2⟩, rfl⟩
    obtain ⟨_, _, h⟩ := z3 z hz
    exact h
  · obtain ⟨l, ⟨ld', h, rfl⟩, rfl⟩ := hk
    exact ⟨ld', h, rfl⟩
end
end A8
set_option Elab.async false
set_option linter.all false
set_option maxRecDepth 100000
set_option maxHeartbeats 1000000
namespace A8
open PySem PySem.Spec PyProof.Rows L2
variable {E : En} (T : Tx E) {f : Fm} {G : List Ki} {e a b c : Expr} {es : List Expr} {pos p : Pos}
theorem tops_pos : ∀ t ∈ tops, 1 ≤ t ∧ t ≤ 5 := by decide
theorem tops_sum : ∀ ts : List Int, (∀ t ∈ ts, t ∈ tops) → (ts.length : Int) ≤ ts.sum ∧ ts.sum ≤ 5 * ts.length
  | [], _ => by simp
  | t :: ts, h => by
    have h1 := tops_pos t (h t List.mem_cons_self)
    have h2 := tops_sum ts fun x hx => h x (List.mem_cons_of_mem _ hx)
    rw [List.sum_cons, List.length_cons]
    omega
theorem lc_ints {α : Type} {Q : Int → Prop} {l : List α} {ds : List Dt} (h : LcOut (fun (_ : α) b => b = true) (fun _ d => ∃ z : Int, Q z ∧ d = .int z) l ds) : ∃ zs : List Int, zs.length = l.length ∧ ds = zs.map Dt.int ∧ ∀ z ∈ zs, Q z := by
  induction h with
  | nil => exact ⟨[], rfl, rfl, fun z hz => nomatch hz⟩
  | no _ r _ => cases r
  | @yes x l ds d _ _ r ih =>
    obtain ⟨zs, h1, h2, h3⟩ := ih
    obtain ⟨z, hz, rfl⟩ := r
    refine ⟨zs ++ [z], by rw [List.length_append, List.length_append, h1]; rfl, by rw [List.map_append, h2]; rfl, fun y hy => ?_⟩
    rcases List.mem_append.mp hy with q | q
    · exact h3 y q
    · rw [List.mem_singleton.mp q]; exact hz
def R_couples (ks : List Ki) (P : Ki → Prop) : Prop := ∃ n : Nat, n ≤ 12 ∧ ks = [.dat (.int n)] ∧ P = A8.one (.lst ((couplesL n).map pc))
where
  couplesL (n : Nat) : List (Nat × Nat) := (List.range n).flatMap fun a => (List.range (n - (a + 1))).map fun i => (a, a + 1 + i)
abbrev couplesL := R_couples.couplesL
theorem couplesL_lt {n : Nat} : ∀ p ∈ couplesL n, p.1 < p.2 ∧ p.2 < n := fun p hp => by
  obtain ⟨a, ha, h⟩ := List.mem_flatMap.mp hp
  obtain ⟨i, hi, rfl⟩ := List.mem_map.mp h
  have := List.mem_range.mp ha
  have := List.mem_range.mp hi
  exact ⟨by show a < a + 1 + i; omega, by show a + 1 + i < n; omega⟩
def R_Lmerging (ks : List Ki) (P : Ki → Prop) : Prop := ∃ (n : Nat) (ms : List Mv), Aut n ms ∧ ks = [.dat (.int n), .dat (moveD ms)] ∧ P = A8.one (optD (mrg n ms))
def kvT (K : RL) : List (List Nat × Dt) := K.map fun kv => (kv.1, (fun _ => Dt.bl true) kv.2)
section
include T
theorem ok_parts {fa : Addr} {fd : FuncData} (c2 : Cl E 2 "_law_any" R_any) (c1 : Cl E 1 "_law_low" R_low) (F : Fun E.K "_law_parts" "_law_parts" s_L_parts fa fd) : FnOk E.P E.w E.K E.mg E.base CX0 3 fa fd ["_law_hand_here", "_law_many"] (spG E.K E.C R_parts) := by
  refine fn_ok F c_L_parts (fun ks P ⟨_, _, _, e, _⟩ => by rw [e]; rfl) (fun ks P ⟨n, _, _, e, _⟩ => noOwn_hand [.int n] e) fun hd ks P h => ?_
  obtain ⟨n, h1, h12, rfl, rfl⟩ := h
  refine sx_cons (s1_set 2 (ex_lc (.one 3) [("_law_k", 3)] (fun l => l = List.range n) (fun s : Nat => .int (s : Int)) (fun _ b => b = true) (fun _ d => ∃ z : Int, z ∈ tops ∧ d = .int z) (IX.weaken (ixl_range T.b (ex_v 1) (by omega)) fun ds h => ⟨_, rfl, h⟩) (gx_one 3) (fun _ _ _ _ => tsx_nil) (fun l hl x hx _ => EX.weaken (ex_call (R := fun k => ∃ d ∈ tops.map Dt.int, k = .dat d) c2 (ad_k (ex_hand 0) (ad_cons (ed_lst (ds := tops.map Dt.int) (ad_cons ex_int (ad_cons ex_int (ad_cons ex_int (ad_cons ex_int (ad_cons ex_int (ad_cons ex_int ad_nil))))))) ad_nil)) (fun ks q => ⟨_, tops.map Dt.int, .inl rfl, by decide, by decide, q, rfl⟩)) fun k hk => ?_) (fun _ _ _ _ => trivial) (fun l hl => by rw [hl, List.length_range]; omega)) (fun k hk => by obtain ⟨_, _, _, _, rfl⟩ := hk; trivial) (hs := by rintro ⟨_⟩ rfl; rfl)) ?_
  · obtain ⟨d, hd', rfl⟩ := hk
    obtain ⟨z, hz, rfl⟩ := List.mem_map.mp hd'
    exact ⟨_, ⟨z, hz, rfl⟩, rfl⟩
  rintro G' ⟨k, ⟨l, ds, rfl, out, rfl⟩, rfl⟩
  obtain ⟨ts, t1, rfl, t3⟩ := lc_ints (Q := fun z => z ∈ tops) out
  rw [List.length_range] at t1
  have hs := tops_sum ts t3
  refine sx_one (s1_ret ((ed_lc (.one 4) [("_law_top", 4)] ts Dt.int (fun t => frp (frl t ts.sum)) (ix_lst (ex_v 2)) (gx_one 4) (fun t ht => ed_call c1 (ad_cons (ex_v 4) (ad_cons (ed_sum T.b (ex_v 2)) ad_nil)) ⟨t, ts.sum, by omega, by omega, rfl, rfl⟩) (by omega)).weaken fun k hk => ⟨ts, t1, t3, hk⟩))
theorem ok_Lcouples {fa : Addr} {fd : FuncData} (F : Fun E.K "_law_couples" "_law_couples" s_L_couples fa fd) : FnOk E.P E.w E.K E.mg E.base CX0 1 fa fd ["_law_many"] (spG E.K E.C R_couples) := by
  refine fn_ok F c_L_couples (fun ks P ⟨_, _, e, _⟩ => by rw [e]; rfl) (fun ks P ⟨n, _, e, _⟩ => noOwn_dat [.int n] e) fun hd ks P h => ?_
  obtain ⟨n, h12, rfl, rfl⟩ := h
  let row (a : Nat) : List (Nat × Nat) := (List.range (n - (a + 1))).map fun i => (a, a + 1 + i)
  have hrow : ∀ i, i ≤ n → ((List.range i).flatMap row).length ≤ i * 12 := fun i hi => by
    induction i with
    | zero => exact Nat.le_refl _
    | succ i ih =>
      rw [List.range_succ, List.flatMap_append, List.length_append]
      have := ih (by omega)
      simp only [List.flatMap_cons, List.flatMap_nil, List.append_nil, row, List.length_map, List.length_range] at this ⊢
      omega
  refine sx_set 1 (eo_lst (ds := []) ad_nil) ?_
  refine sx_cons (s1_for (.one 2) (List.range n) (fun m : Nat => .int (m : Int)) (fun i G' => ∃ (x2 x3 : Ki), G' = [.dat (.int n), .ol (((List.range i).flatMap row).map pc), x2, x3]) (ixl_range T.b (ex_v 0) (by omega)) (gx_one 2) ⟨_, _, rfl⟩ ?_) ?_
  · rintro i s hi G' ⟨x2, x3, rfl⟩
    obtain ⟨hil, his⟩ := List.getElem?_eq_some_iff.mp hi
    rw [List.length_range] at hil
    rw [List.getElem_range] at his
    subst his
    have hr := hrow i (by omega)
    have hri : (row i).length ≤ 12 := by
      simp only [row, List.length_map, List.length_range]
      omega
    refine sx_one (S1.weaken (s1_extend (l := (row i).map pc) 1 (ED.is (ed_lc (.one 3) [("_law_other", 3)] (List.range (n - (i + 1))) (fun j : Nat => .int (((i : Int) + 1) + (j : Int))) (fun j => pc (i, i + 1 + j)) (IX.weaken (ixl_range2 T.b (ed_add (ex_v 2) ex_int) (ex_v 0) (by omega)) fun ds h => ?_) (gx_one 3) (fun j hj => ?_) (by rw [List.length_range]; omega)) ?_) rfl (by rw [List.length_map, List.length_map]; omega)) ?_)
    · rw [h, show ((n : Int) - ((i : Int) + 1)).toNat = n - (i + 1) by omega]
    · refine ED.is (ed_tup (ds := [.int (i : Int), .int (((i : Int) + 1) + (j : Int))]) (ad_cons (ex_v 2) (ad_cons (ex_v 3) ad_nil))) ?_
      rw [show ((i : Int) + 1) + (j : Int) = ((i + 1 + j : Nat) : Int) by omega]
      rfl
    · simp only [row, List.map_map]
      rfl
    · rintro G' rfl
      have e1 : ((List.range (i + 1)).flatMap row).map pc = ((List.range i).flatMap row).map pc ++ (row i).map pc := by
        rw [List.range_succ, List.flatMap_append, List.map_append]
        simp
      exact ⟨_, _, by rw [e1]; rfl⟩
  · rintro G' ⟨x2, x3, rfl⟩
    rw [List.length_range]
    refine sx_freeze 1 rfl ?_
    exact sx_one (s1_ret (ex_v 1))
end
end A8
set_option Elab.async false
set_option linter.all false
set_option maxRecDepth 100000
set_option maxHeartbeats 1000000
namespace A8
open PySem PySem.Spec PyProof.Rows L2
variable {E : En} (T : Tx E) {f : Fm} {G : List Ki} {e a b c : Expr} {es : List Expr} {pos p : Pos}
theorem ed_leadsT {n : Nat} {ms : List Mv} {i : Nat} {p2 p3 p4 : Pos} {k0} (A : Aut n ms) (hi : i < ms.length) (hs : ED E f a G (moveD ms)) (hm : ED E f b G (.int (i : Int))) (hp : PlainIx b := by intro _ _; rfl) :
    ED E f (.Subscript (.Subscript a b p2) (.Constant (.int 1) k0 p3) p4) G (nt (ldAt ms i)) := by
  obtain ⟨m, h1, h2, h3, h4⟩ := A.at hi
  refine ed_ixT (l := [fr m.t m.b, nt m.ld]) (ed_ixT hs hm (atI_at (x := m.d) (by rw [List.getElem?_map, h1]; rfl)) hp) ex_int ?_
  rw [← h2]
  rfl
theorem Wf.lotlen {n k : Nat} {K L : RL} (w : Wf n k K L) {rl : List Nat × List Nat} (h : rl ∈ L) : rl.2.length < 64 := by
  have h1 := (w.lot rl h).1
  have h2 : (A8.lot rl.2).length ≤ (List.range 12).length := List.length_filter_le _ _
  rw [← h1, List.length_range] at h2
  omega
theorem Wf.few {n k : Nat} {K L : RL} (w : Wf n k K L) : L.length ≤ 4096 := by
  have few := w.kk.few
  have h1 : (L.map fun rl => (rl.2, rl.1)).length ≤ K.length := by
    refine nodup_len ?_ fun x hx => ?_
    · rw [List.nodup_iff_pairwise_ne, List.pairwise_map]
      exact (List.pairwise_map.mp w.asc).imp fun {a b} h e => by
        rw [(Prod.mk.inj e).2] at h
        exact List.lt_irrefl _ h
    · obtain ⟨rl, h, rfl⟩ := List.mem_map.mp hx
      exact w.mem rl h
  rw [List.length_map] at h1
  omega
section
include T
theorem ok_Lmerging {fa : Addr} {fd : FuncData} (c1 : Cl E 1 "_law_led" R_led) (F : Fun E.K "_law_merging" "_law_merging" s_L_merging fa fd) : FnOk E.P E.w E.K E.mg E.base CX0 2 fa fd ["_law_many", "_law_moves_here"] (spG E.K E.C R_Lmerging) := by
  refine fn_ok F c_L_merging (fun ks P ⟨_, _, _, e, _⟩ => by rw [e]; rfl) (fun ks P ⟨n, ms, _, e, _⟩ => noOwn_dat [.int n, moveD ms] e) fun hd ks P h => ?_
  obtain ⟨n, ms, A, rfl, rfl⟩ := h
  have h24 := A.m24
  have h12 := A.n12
  have hm : (ms.map Mv.d).length = ms.length := List.length_map ..
  refine sx_cons (s1_par (Ra := A8.one (.lst ((L0 n).map prD))) (Rb := fun k => k = .od (kvT (K0 n))) 2 3 (ed_lst (ds := [prD ([], List.range n)]) (ad_cons (ed_tup (ds := [nt [], nt (List.range n)]) (ad_cons (ed_tup (ds := []) ad_nil) (ad_cons (ed_tupRange T.b (ex_v 0) (by omega)) ad_nil))) ad_nil)) (eo_disp (ns := List.range n) (d := .bl true) (ed_tupRange T.b (ex_v 0) (by omega)) ex_bl) (fun k h => by rw [h]; trivial) (fun k h => by rw [h]; trivial)) ?_
  rintro G' ⟨k, k', rfl, rfl, rfl⟩
  refine sx_cons (N1 := fun G' => ∃ (K : RL), (∀ o, Runs ms K [] o → Runs ms (K0 n) (L0 n) o))
    (s1_while (fun m G' => ∃ (K L : RL) (x4 x5 x6 x7 x8 x9 : Ki), Wf n ms.length K L ∧ (∀ o, Runs ms K L o → Runs ms (K0 n) (L0 n) o) ∧ m = (4096 - K.length) + (if L = [] then 0 else 1) ∧ G' = [.dat (.int n), .dat (moveD ms), .dat (.lst (L.map prD)), .od (kvT K), x4, x5, x6, x7, x8, x9]) _
    ⟨K0 n, L0 n, .un, .un, .un, .un, .un, .un, wf0 h12, fun o h => h, rfl, rfl⟩ (fun m G' => kl G' 2) ?_ ?_ ?_) ?_
  · rintro m G' ⟨K, L, x4, x5, x6, x7, x8, x9, w, hr, rfl, rfl⟩
    refine (td_gt (ed_len T.b (ex_v 2) (.lst (L.map prD))) ex_int).weaken fun c hc => ?_
    rw [hc]
    show decide ((0 : Int) < ((L.map prD).length : Int)) = decide (0 < (L.map prD).length)
    rw [Bool.eq_iff_iff, decide_eq_true_eq, decide_eq_true_eq]
    omega
  · rintro m G' ⟨K, L, x4, x5, x6, x7, x8, x9, w, hr, rfl, rfl⟩ hne
    have hL : L ≠ [] := by
      intro z
      subst z
      exact absurd (show false = true from hne) (by decide)
    obtain ⟨wn, hlenK⟩ := w.next A
    have few := w.kk.few
    have fewL := w.few
    refine sx_setLcf 6 (.two 4 5) [("_law_row", 4), ("_law_lot", 5)] L prD (fun rl => nt rl.1) (fun rl => decide (rl.2.length = 1)) (ix_lst (ex_v 2)) (gx_two 4 5) (fun rl h => TD.is (td_eq (ed_len T.b (ex_v 5) (.tup (natsD rl.2))) ex_int) ?_) (fun rl h _ => ex_v 4) (by omega) ?_ (hf := fun rl _ => ⟨_, _, rfl⟩)
    · rw [natsD_len, Bool.eq_iff_iff, decide_eq_true_eq, decide_eq_true_eq]
      omega
    rw [ended_filter]
    refine sx_cons (N1 := fun G' => G' = [.dat (.int n), .dat (moveD ms), .dat (.lst (L.map prD)), .od (kvT K), x4, x5, .dat (.lst ((endedL L).map nt)), x7, x8, x9] ∧ endedL L = []) (s1_if (td_gt (ed_len T.b (ex_v 6) (.lst ((endedL L).map nt))) ex_int) (fun h => ?_) (fun h => sx_nil ⟨rfl, ?_⟩)) ?_
    · cases hz : endedL L with
      | nil =>
        rw [hz] at h
        exact absurd (show true = false from h) (by decide)
      | cons r rs =>
        refine sx_one (s1_ret (ED.is (ed_ixL (l := (r :: rs).map nt) (ex_v 6) ex_int (x := nt r) (by rw [List.map_cons]; exact atI_0)) ?_))
        rw [mrg_of (hr (some r) (.found hz))]
        rfl
    · cases hz : endedL L with
      | nil => rfl
      | cons r rs =>
        rw [hz] at h
        have h' := of_decide_eq_false h.symm
        rw [List.map_cons, List.length_cons] at h'
        omega
    · rintro G' ⟨rfl, hz⟩
      refine sx_set 7 (eo_lst (ds := []) ad_nil) ?_
      have hl : ∀ rl ∈ L, ∀ x ∈ rl.2, x < n := fun rl h => (w.lot rl h).2
      obtain ⟨d, hd, hdL⟩ := w.len
      have m0 : Mid ms n K (K, []) := ⟨w.kk, by simp⟩
      refine sx_cons (s1_for (.two 4 5) L prD (fun i G' => ∃ (x4 x5 x8 x9 : Ki), G' = [.dat (.int n), .dat (moveD ms), .dat (.lst (L.map prD)), .od (kvT ((L.take i).foldl (brow ms) (K, [])).1), x4, x5, .dat (.lst ((endedL L).map nt)), .ol (((L.take i).foldl (brow ms) (K, [])).2.map prD), x8, x9])
        (ix_lst (ex_v 2)) (gx_two 4 5) ⟨_, _, _, _, rfl⟩ ?_ (fun rl _ => ⟨_, _, rfl⟩)) ?_
      · rintro i rl hi G' ⟨x4, x5, x8, x9, rfl⟩
        have hrl := List.mem_of_getElem? hi
        obtain ⟨p1, p2⟩ := blevel_fold A (L.take i) (K, []) [] (fun rl h => hl rl (List.mem_of_mem_take h)) m0 (List.Sublist.refl _)
        generalize hst : (L.take i).foldl (brow ms) (K, []) = st at p1 p2
        have hnext : (L.take (i + 1)).foldl (brow ms) (K, []) = brow ms st rl := by
          rw [List.take_add_one, hi, List.foldl_append, hst]
          rfl
        rw [hnext]
        have hlt64 := w.lotlen hrl
        obtain ⟨row, lt⟩ := rl
        have hlt : ∀ x ∈ lt, x < n := hl _ hrl
        have hrow : row.length < 5000 := by
          have := hdL _ hrl
          have h3 : row.length = d := this
          omega
        refine sx_one (S1.weaken (s1_for (.one 8) (List.range ms.length) (fun m : Nat => .int (m : Int)) (fun j G' => ∃ (x8 x9 : Ki), G' = [.dat (.int n), .dat (moveD ms), .dat (.lst (L.map prD)), .od (kvT ((List.range j).foldl (bstep ms row lt) st).1), .dat (nt row), .dat (nt lt), .dat (.lst ((endedL L).map nt)), .ol (((List.range j).foldl (bstep ms row lt) st).2.map prD), x8, x9])
          (ixl_range T.b (ED.is (ed_len T.b (ex_v 1) (.tup (ms.map Mv.d))) (by rw [hm])) (by omega)) (gx_one 8) ⟨_, _, rfl⟩ ?_) ?_)
        · rintro j m hj G' ⟨x8, x9, rfl⟩
          obtain ⟨hjl, hjm⟩ := List.getElem?_eq_some_iff.mp hj
          rw [List.length_range] at hjl
          rw [List.getElem_range] at hjm
          subst hjm
          obtain ⟨r1, _⟩ := brow_fold A (row := row) hlt p1 p2 j (by omega)
          rw [List.range_succ, List.foldl_append]
          generalize hst2 : (List.range j).foldl (bstep ms row lt) st = st2 at r1
          have few2 := r1.k.few
          have hf2 : st2.2.length ≤ 4096 := by
            have := congrArg List.length r1.ex
            rw [List.length_append, List.length_map] at this
            omega
          obtain ⟨_, _, _, g1, g2⟩ := A.at hjl
          show SX _ _ _ _ (fun G2 => ∃ (x8 x9 : Ki), G2 = [.dat (.int n), .dat (moveD ms), .dat (.lst (L.map prD)), .od (kvT (bstep ms row lt st2 j).1), .dat (nt row), .dat (nt lt), .dat (.lst ((endedL L).map nt)), .ol ((bstep ms row lt st2 j).2.map prD), x8, x9]) _
          refine sx_set 9 (ed_call c1 (ad_cons (ed_leadsT A hjl (ex_v 1) (ex_v 8)) (ad_cons (ex_v 5) ad_nil)) ⟨n, ldAt ms j, lt, h12, g1, g2, hlt, hlt64, rfl, rfl⟩) ?_
          have hsome : (dget (kvT st2.1) (led (ldAt ms j) lt)).isSome = decide (led (ldAt ms j) lt ∈ st2.1.map (·.1)) := dget_isSome (g := fun _ => Dt.bl true) r1.k.keys
          refine sx_one (s1_if (td_dnotin (ns := led (ldAt ms j) lt) (ex_v 9) (ex_vd 3)) (fun h => ?_) (fun h => ?_))
          · rw [hsome] at h
            have hnot : led (ldAt ms j) lt ∉ st2.1.map (·.1) := by simpa using h
            have eb : bstep ms row lt st2 j = (st2.1 ++ [(led (ldAt ms j) lt, row ++ [j])], st2.2 ++ [(row ++ [j], led (ldAt ms j) lt)]) := if_neg hnot
            refine sx_cons (s1_dput 3 (d := .bl true) ex_bl (ex_v 9) (dget_none (g := fun _ => Dt.bl true) hnot) ?_) ?_
            · rw [List.length_map]
              omega
            · rintro G' rfl
              refine sx_one (S1.weaken (s1_append (R := A8.one (prD (row ++ [j], led (ldAt ms j) lt))) 7 (ED.is (ed_tup (ds := [nt (row ++ [j]), nt (led (ldAt ms j) lt)]) (ad_cons (ED.is (ed_cat (l := natsD row) (m := [.int (j : Int)]) (ex_v 4) (ed_tup (ds := [.int (j : Int)]) (ad_cons (ex_v 8) ad_nil)) (by rw [natsD_len]; simp; omega)) ?_) (ad_cons (ex_v 9) ad_nil))) rfl) (fun k hk => ⟨_, hk⟩) rfl (by rw [List.length_map]; omega)) ?_)
              · rw [nt_def, natsD_snoc]
              · rintro G' ⟨d', hd', rfl⟩
                cases hd'
                have e1 : kvT (bstep ms row lt st2 j).1 = kvT st2.1 ++ [(led (ldAt ms j) lt, .bl true)] := by
                  rw [eb]
                  unfold kvT
                  rw [List.map_append]
                  rfl
                have e2 : (bstep ms row lt st2 j).2.map prD = st2.2.map prD ++ [prD (row ++ [j], led (ldAt ms j) lt)] := by
                  rw [eb, List.map_append]
                  rfl
                exact ⟨_, _, by rw [e1, e2]; rfl⟩
          · rw [hsome] at h
            have hin : led (ldAt ms j) lt ∈ st2.1.map (·.1) := by simpa using h
            have eb : bstep ms row lt st2 j = st2 := if_pos hin
            exact sx_nil ⟨_, _, by rw [eb]; rfl⟩
        · rintro G' ⟨x8, x9, rfl⟩
          rw [List.length_range]
          exact ⟨_, _, _, _, rfl⟩
      · rintro G' ⟨x4, x5, x8, x9, rfl⟩
        rw [List.take_length]
        refine sx_freeze 7 rfl ?_
        refine sx_set 2 (ex_v 7) ?_
        have q1 : (4096 - (blevel ms K L).1.length) + (if (blevel ms K L).2 = [] then 0 else 1) < (4096 - K.length) + (if L = [] then 0 else 1) := by
          have few3 := wn.kk.few
          rw [if_neg hL]
          by_cases hq : (blevel ms K L).2 = []
          · rw [if_pos hq]
            rw [hq] at hlenK
            simp at hlenK
            omega
          · rw [if_neg hq]
            have : 0 < (blevel ms K L).2.length := List.length_pos_iff.mpr hq
            omega
        exact sx_nil ⟨_, q1, (blevel ms K L).1, (blevel ms K L).2, _, _, _, _, _, _, wn, fun o h => hr o (.next hL hz h), rfl, rfl⟩
  · rintro m G' ⟨K, L, x4, x5, x6, x7, x8, x9, w, hr, rfl, rfl⟩ hb
    have hL : L = [] := by
      cases L with
      | nil => rfl
      | cons _ _ => exact absurd (show true = false from hb) (by decide)
    subst hL
    exact ⟨K, hr⟩
  · rintro G' ⟨K, hr⟩
    refine sx_one (s1_ret (ED.is ex_non ?_))
    rw [mrg_of (hr none .nil)]
    rfl
end
end A8
set_option Elab.async false
set_option linter.all false
set_option maxRecDepth 100000
set_option maxHeartbeats 1000000
namespace A8
open PySem PySem.Spec PyProof.Rows L2
variable {E : En} (T : Tx E) {f : Fm} {G : List Ki} {e a b c : Expr} {es : List Expr} {pos p : Pos}
def metB (ms : List Mv) (p : Nat × Nat) : Bool := ms.any fun m => decide (go m.ld p.1 = go m.ld p.2)
def reach (ms : List Mv) (met : List (Nat × Nat)) (p : Nat × Nat) : Bool := ms.any fun m => inL (led m.ld (pl2 p)) met
def mstep (ms : List Mv) (met : List (Nat × Nat)) (p : Nat × Nat) : List (Nat × Nat) := if (!decide (p ∈ met) && reach ms met p) = true then met ++ [p] else met
def mround (n : Nat) (ms : List Mv) (met : List (Nat × Nat)) : List (Nat × Nat) := (couplesL n).foldl (mstep ms) met
def mfin (n : Nat) (ms : List Mv) (k : Nat) : List (Nat × Nat) := (List.range k).foldl (fun met _ => mround n ms met) ((couplesL n).filter (metB ms))
def lapart (n : Nat) (ms : List Mv) : List (Nat × Nat) := (couplesL n).filter fun p => !decide (p ∈ mfin n ms (couplesL n).length)
def R_Lapart (ks : List Ki) (P : Ki → Prop) : Prop := ∃ (n : Nat) (ms : List Mv), Aut n ms ∧ ks = [.dat (.int n), .dat (moveD ms)] ∧ P = A8.one (.tup ((lapart n ms).map pc))
theorem inD_pc (p : Nat × Nat) (l : List (Nat × Nat)) : inD (pc p) (l.map pc) = decide (p ∈ l) := by
  rw [map_pc]
  show inD (nt (pl2 p)) _ = _
  rw [inD_nts, Bool.eq_iff_iff, decide_eq_true_eq, decide_eq_true_eq]
  constructor
  · intro h
    obtain ⟨q, hq, e⟩ := List.mem_map.mp h
    rw [← pl2_inj e]
    exact hq
  · intro h
    exact List.mem_map.mpr ⟨p, h, rfl⟩
theorem inD_led (t : List Nat) (l : List (Nat × Nat)) : inD (nt t) (l.map pc) = inL t l := by
  rw [map_pc, inD_nts]
  rfl
theorem couplesL_len {n : Nat} (h : n ≤ 12) : (couplesL n).length ≤ 144 := by
  have : ∀ i, ((List.range i).flatMap fun a => (List.range (n - (a + 1))).map fun j => (a, a + 1 + j)).length ≤ i * 12 := fun i => by
    induction i with
    | zero => exact Nat.le_refl _
    | succ i ih =>
      rw [List.range_succ, List.flatMap_append, List.length_append]
      simp only [List.flatMap_cons, List.flatMap_nil, List.append_nil, List.length_map, List.length_range] at ih ⊢
      omega
  have h1 := this n
  have h2 : n * 12 ≤ 12 * 12 := Nat.mul_le_mul_right _ h
  exact Nat.le_trans h1 h2
theorem mstep_sub {n : Nat} {ms : List Mv} : ∀ (l met : List (Nat × Nat)), met.Nodup → (∀ p ∈ met, p ∈ couplesL n) → (∀ p ∈ l, p ∈ couplesL n) → (l.foldl (mstep ms) met).Nodup ∧ ∀ p ∈ l.foldl (mstep ms) met, p ∈ couplesL n
  | [], met, h1, h2, _ => ⟨h1, h2⟩
  | q :: l, met, h1, h2, h3 => by
    rw [List.foldl_cons]
    refine mstep_sub l _ ?_ ?_ fun p hp => h3 p (List.mem_cons_of_mem _ hp)
    · unfold mstep
      split
      · rename_i h
        rw [Bool.and_eq_true] at h
        have hq : q ∉ met := by simpa using h.1
        rw [List.nodup_append]
        exact ⟨h1, by simp, fun x hx y hy => by rw [List.mem_singleton.mp hy]; exact fun e => hq (e ▸ hx)⟩
      · exact h1
    · intro p hp
      unfold mstep at hp
      split at hp
      · rcases List.mem_append.mp hp with r | r
        · exact h2 p r
        · rw [List.mem_singleton.mp r]; exact h3 q List.mem_cons_self
      · exact h2 p hp
theorem couplesL_nodup (n : Nat) : (couplesL n).Nodup := by
  unfold couplesL R_couples.couplesL
  rw [List.nodup_iff_pairwise_ne, List.pairwise_flatMap]
  refine ⟨fun a _ => ?_, ?_⟩
  · rw [List.pairwise_map]
    exact List.pairwise_lt_range.imp fun h e => by
      have := (Prod.mk.inj e).2
      omega
  · refine List.pairwise_lt_range.imp fun {a b} h x hx y hy e => ?_
    obtain ⟨i, _, rfl⟩ := List.mem_map.mp hx
    obtain ⟨j, _, rfl⟩ := List.mem_map.mp hy
    have := (Prod.mk.inj e).1
    omega
theorem mfin_ok (n : Nat) (ms : List Mv) : ∀ k, (mfin n ms k).Nodup ∧ ∀ p ∈ mfin n ms k, p ∈ couplesL n
  | 0 => ⟨(couplesL_nodup n).filter _, fun p hp => (List.mem_filter.mp hp).1⟩
  | k + 1 => by
    have e : mfin n ms (k + 1) = mround n ms (mfin n ms k) := by
      unfold mfin
      rw [List.range_succ, List.foldl_append]
      rfl
    rw [e]
    obtain ⟨h1, h2⟩ := mfin_ok n ms k
    exact mstep_sub _ _ h1 h2 fun p hp => hp
section
include T
theorem ok_Lapart {fa : Addr} {fd : FuncData} (cc : Cl E 1 "_law_couples" R_couples) (c1 : Cl E 1 "_law_led" R_led) (F : Fun E.K "_law_apart" "_law_apart" s_L_apart fa fd) : FnOk E.P E.w E.K E.mg E.base CX0 2 fa fd ["_law_many", "_law_moves_here"] (spG E.K E.C R_Lapart) := by
  refine fn_ok F c_L_apart (fun ks P ⟨_, _, _, e, _⟩ => by rw [e]; rfl) (fun ks P ⟨n, ms, _, e, _⟩ => noOwn_dat [.int n, moveD ms] e) fun hd ks P h => ?_
  obtain ⟨n, ms, A, rfl, rfl⟩ := h
  have h24 := A.m24
  have h12 := A.n12
  have hcl := couplesL_len h12
  have ldm : ∀ m ∈ ms, m.ld.length = n ∧ ∀ x ∈ m.ld, x < n := A.ld
  have hpc0 : ∀ q : Nat × Nat, atI [Dt.int (q.1 : Int), Dt.int (q.2 : Int)] 0 = some (.int (q.1 : Int)) := fun q => atI_0
  have hpc1 : ∀ q : Nat × Nat, atI [Dt.int (q.1 : Int), Dt.int (q.2 : Int)] 1 = some (.int (q.2 : Int)) := fun q => atI_1
  refine sx_set 2 (ed_call cc (ad_cons (ex_v 0) ad_nil) ⟨n, h12, rfl, rfl⟩) ?_
  refine sx_set 4 (eo_lcf (.one 3) [("_law_pair", 3)] (couplesL n) pc pc (metB ms) (ix_lst (ex_v 2)) (gx_one 3) (fun q hq => td_val (ED.is (ed_any T.b (bs := ms.map fun m => decide (go m.ld q.1 = go m.ld q.2)) (ED.is (ed_lc (.two 6 7) [("_law_share", 6), ("_law_leads_here", 7)] ms Mv.d (fun m => .bl (decide (go m.ld q.1 = go m.ld q.2))) (ix_tupT (ex_v 1)) (gx_two 6 7) (fun m hm => ?_) (by omega) (fun m _ => ⟨_, _, rfl⟩)) ?_)) ?_)) (fun q hq _ => ex_v 3) (by omega)) ?_ (hs := by rintro ⟨_⟩ rfl; rfl)
  · obtain ⟨g1, g2⟩ := ldm m hm
    obtain ⟨q1, q2⟩ := couplesL_lt q hq
    refine ED.is (ed_eq (ed_ixT (ex_v 7) (ed_ixT (ex_v 3) ex_int (hpc0 q)) (atI_go g1 g2 (by omega))) (ed_ixT (ex_v 7) (ed_ixT (ex_v 3) ex_int (hpc1 q)) (atI_go g1 g2 q2))) ?_
    congr 1
    rw [Bool.eq_iff_iff, decide_eq_true_eq, decide_eq_true_eq]
    omega
  · rw [List.map_map]; rfl
  · unfold metB
    rw [List.any_map]
    rfl
  refine sx_cons (s1_for (.one 5) (List.range (couplesL n).length) (fun m : Nat => .int (m : Int)) (fun i G' => ∃ (x3 x5 x6 x7 : Ki), G' = [.dat (.int n), .dat (moveD ms), .dat (.lst ((couplesL n).map pc)), x3, .ol ((mfin n ms i).map pc), x5, x6, x7]) (ixl_range T.b (ED.is (ed_len T.b (ex_v 2) (.lst ((couplesL n).map pc))) (by rw [List.length_map])) (by omega)) (gx_one 5) ⟨_, _, _, _, rfl⟩ ?_) ?_
  · rintro i s hi G' ⟨x3, x5, x6, x7, rfl⟩
    obtain ⟨o1, o2⟩ := mfin_ok n ms i
    have e : mfin n ms (i + 1) = mround n ms (mfin n ms i) := by
      unfold mfin
      rw [List.range_succ, List.foldl_append]
      rfl
    rw [e]
    generalize mfin n ms i = met at o1 o2
    refine sx_one (S1.weaken (s1_for (.one 3) (couplesL n) pc (fun j G' => ∃ (x3 x5 x6 x7 : Ki), G' = [.dat (.int n), .dat (moveD ms), .dat (.lst ((couplesL n).map pc)), x3, .ol ((((couplesL n).take j).foldl (mstep ms) met).map pc), x5, x6, x7]) (ix_lst (ex_v 2)) (gx_one 3) ⟨_, _, _, _, rfl⟩ ?_) ?_)
    · rintro j q hj G' ⟨x3, x5, x6, x7, rfl⟩
      have hq := List.mem_of_getElem? hj
      obtain ⟨q1, q2⟩ := couplesL_lt q hq
      obtain ⟨r1, r2⟩ := mstep_sub (ms := ms) ((couplesL n).take j) met o1 o2 fun p hp => List.mem_of_mem_take hp
      have e2 : ((couplesL n).take (j + 1)).foldl (mstep ms) met = mstep ms (((couplesL n).take j).foldl (mstep ms) met) q := by
        rw [List.take_add_one, hj, List.foldl_append]
        rfl
      rw [e2]
      generalize ((couplesL n).take j).foldl (mstep ms) met = mt at r1 r2
      have hmt : mt.length ≤ 144 := Nat.le_trans (nodup_len r1 r2) hcl
      refine sx_one (s1_if (WX.tx (wd_and (TD.is (td_notin (ex_v 3) (ex_vl 4) holdV (pl_nt _) (by rw [map_pc]; exact pl_nts _) (shaped_nt _) (by rw [map_pc]; exact shaped_nts _)) (by rw [inD_pc])) fun _ => wd_and1 (td_val (ED.is (ed_any T.b (bs := ms.map fun m => inL (led m.ld (pl2 q)) mt) (ED.is (ed_lc (.two 6 7) [("_law_share", 6), ("_law_leads_here", 7)] ms Mv.d (fun m => .bl (inL (led m.ld (pl2 q)) mt)) (ix_tupT (ex_v 1)) (gx_two 6 7) (fun m hm => ?_) (by omega) (fun m _ => ⟨_, _, rfl⟩)) (by rw [List.map_map]; rfl))) (d' := .bl (reach ms mt q)) (by unfold reach; rw [List.any_map]; rfl))))) (fun h => ?_) (fun h => sx_nil ?_))
      · obtain ⟨g1, g2⟩ := ldm m hm
        refine ED.is (ed_in (ls := true) (ed_call c1 (ad_cons (ex_v 7) (ad_cons (ex_v 3) ad_nil)) ⟨n, m.ld, pl2 q, h12, g1, g2, fun x hx => ?_, by unfold pl2; simp, rfl, rfl⟩) (ex_vl 4) holdV (pl_nt _) (by rw [map_pc]; exact pl_nts _) (shaped_nt _) (by rw [map_pc]; exact shaped_nts _)) (by rw [inD_led])
        unfold pl2 at hx
        simp at hx
        omega
      · refine sx_one (S1.weaken (s1_append 4 (ex_v 3) (fun k hk => ⟨_, hk⟩) rfl (by rw [List.length_map]; omega)) ?_)
        rintro G' ⟨d, hd', rfl⟩
        cases hd'
        have e3 : (mstep ms mt q).map pc = mt.map pc ++ [pc q] := by
          unfold mstep
          rw [if_pos h.symm, List.map_append]
          rfl
        exact ⟨_, _, _, _, by rw [e3]; rfl⟩
      · have e3 : mstep ms mt q = mt := by
          unfold mstep
          rw [← h]
          rfl
        exact ⟨_, _, _, _, by rw [e3]; rfl⟩
    · rintro G' ⟨x3, x5, x6, x7, rfl⟩
      rw [List.take_length]
      exact ⟨_, _, _, _, rfl⟩
  · rintro G' ⟨x3, x5, x6, x7, rfl⟩
    rw [List.length_range]
    obtain ⟨o1, o2⟩ := mfin_ok n ms (couplesL n).length
    refine sx_one (s1_ret (ed_tuple T.b (ed_lcf (.one 3) [("_law_pair", 3)] (couplesL n) pc pc (fun q => !decide (q ∈ mfin n ms (couplesL n).length)) (ix_lst (ex_v 2)) (gx_one 3) (fun q hq => TD.is (td_notin (ex_v 3) (ex_vl 4) holdV (pl_nt _) (by rw [map_pc]; exact pl_nts _) (shaped_nt _) (by rw [map_pc]; exact shaped_nts _)) (by rw [inD_pc])) (fun q hq _ => ex_v 3) (by omega))))
end
end A8
set_option Elab.async false
set_option linter.all false
set_option maxRecDepth 100000
set_option maxHeartbeats 1000000
namespace A8
open PySem PySem.Spec PyProof.Rows L2
variable {E : En} (T : Tx E) {f : Fm} {G : List Ki} {e a b c : Expr} {es : List Expr} {pos p : Pos}
def snext (ms : List Mv) (L : RL) : RL := L.flatMap fun rl => (List.range ms.length).map fun m => (rl.1 ++ [m], rl.2.map (go (ldAt ms m)))
def sEnded (L : RL) : List (List Nat) := (L.filter fun rl => decide ((lot rl.2).length = 1)).map (·.1)
def shr (ms : List Mv) : Nat → RL → Option (List Nat)
  | 0, _ => none
  | t + 1, L => match sEnded L with
    | r :: _ => some r
    | [] => shr ms t (snext ms L)
def R_shortest (ks : List Ki) (P : Ki → Prop) : Prop := ∃ (n : Nat) (ms : List Mv) (most : Nat), Aut n ms ∧ ms.length ≤ 4 ∧ most ≤ 4 ∧ ks = [.dat (.int n), .dat (moveD ms), .dat (.int most)] ∧ P = A8.one (optD (shr ms (most + 1) (L0 n)))
structure Sf (n k d : Nat) (L : RL) : Prop where
  asc : (L.map (·.1)).Pairwise (· < ·)
  len : ∀ rl ∈ L, rl.1.length = d
  st : ∀ rl ∈ L, rl.2.length = n ∧ ∀ x ∈ rl.2, x < n
  few : L.length ≤ 4 ^ d
theorem Sf.next {n d : Nat} {ms : List Mv} (A : Aut n ms) (h4 : ms.length ≤ 4) {L : RL} (h : Sf n ms.length d L) : Sf n ms.length (d + 1) (snext ms L) := by
  have e : (snext ms L).map (·.1) = expR ms.length L := by
    unfold snext expR
    rw [List.map_flatMap]
    congr 1
    funext rl
    rw [List.map_map]
    rfl
  refine ⟨by rw [e]; exact expR_asc h.asc h.len, fun rl hr => ?_, fun rl hr => ?_, ?_⟩
  · obtain ⟨r, h1, h2⟩ := List.mem_flatMap.mp hr
    obtain ⟨m, _, rfl⟩ := List.mem_map.mp h2
    rw [List.length_append, h.len r h1]
    rfl
  · obtain ⟨r, h1, h2⟩ := List.mem_flatMap.mp hr
    obtain ⟨m, h3, rfl⟩ := List.mem_map.mp h2
    obtain ⟨_, _, _, g1, g2⟩ := A.at (List.mem_range.mp h3)
    obtain ⟨s1, s2⟩ := h.st r h1
    refine ⟨by rw [List.length_map]; exact s1, fun x hx => ?_⟩
    obtain ⟨y, hy, rfl⟩ := List.mem_map.mp hx
    exact (go_lt g1 g2 (s2 y hy)).1
  · unfold snext
    rw [len_fm (k := ms.length) fun x _ => by rw [List.length_map, List.length_range], Nat.pow_succ]
    exact Nat.mul_le_mul h.few h4
theorem sEnded_asc {n k d : Nat} {L : RL} (h : Sf n k d L) : (sEnded L).Pairwise (· < ·) := h.asc.sublist ((List.filter_sublist).map _)
theorem minD_head {r : List Nat} {rs : List (List Nat)} (h : (r :: rs).Pairwise (· < ·)) : PySem.W.minD (nt r).py ((rs.map nt).map Dt.py) = (nt r).py := by
  unfold PySem.W.minD
  have h1 := (List.pairwise_cons.mp h).1
  clear h
  induction rs with
  | nil => rfl
  | cons s rs ih =>
    rw [List.map_cons, List.map_cons, List.foldl_cons]
    have e : PySem.W.dataLt (nt s).py (nt r).py = false := by
      rw [dataLt_nt]
      exact decide_eq_false (natl_asymm (h1 s List.mem_cons_self))
    rw [e]
    exact ih fun x hx => h1 x (List.mem_cons_of_mem _ hx)
theorem depthAll_nts (l : List (List Nat)) : PyData.depthAll ((l.map nt).map Dt.py) ≤ 64 := by
  have := (lay_nts l).2
  rw [Dt.pyL_eq] at this
  omega
theorem alikeAll_nts (l : List (List Nat)) : PySem.W.AlikeAll ((l.map nt).map Dt.py) := by
  refine ⟨fun x hx y hy => ?_, fun x hx => ?_⟩
  · obtain ⟨x', hx1, rfl⟩ := List.mem_map.mp hx
    obtain ⟨y', hy1, rfl⟩ := List.mem_map.mp hy
    obtain ⟨a, _, rfl⟩ := List.mem_map.mp hx1
    obtain ⟨b, _, rfl⟩ := List.mem_map.mp hy1
    rw [py_nt, py_nt]
    exact alike_pyN _ _
  · obtain ⟨x', hx1, rfl⟩ := List.mem_map.mp hx
    obtain ⟨a, _, rfl⟩ := List.mem_map.mp hx1
    rw [py_nt]
    exact fun z => nomatch z
theorem py_inj_nt {a b : List Nat} (h : (nt a).py = (nt b).py) : a = b := by
  have := eqv_nt a b
  rw [h, eqv_nt] at this
  simpa using this.symm
section
include T
theorem ok_shortest {fa : Addr} {fd : FuncData} (F : Fun E.K "_law_shortest" "_law_shortest" s_L_shortest fa fd) : FnOk E.P E.w E.K E.mg E.base CX0 1 fa fd ["_law_many", "_law_moves_here", "_law_most"] (spG E.K E.C R_shortest) := by
  refine fn_ok F c_L_shortest (fun ks P ⟨_, _, _, _, _, _, e, _⟩ => by rw [e]; rfl) (fun ks P ⟨n, ms, most, _, _, _, e, _⟩ => noOwn_dat [.int n, moveD ms, .int most] e) fun hd ks P h => ?_
  obtain ⟨n, ms, most, A, h4, hm4, rfl, rfl⟩ := h
  have h12 := A.n12
  have hm : (ms.map Mv.d).length = ms.length := List.length_map ..
  have pw : ∀ d, d ≤ 5 → 4 ^ d ≤ 1024 := fun d hd => Nat.le_trans (Nat.pow_le_pow_right (by decide) hd) (by decide)
  refine sx_set 3 (ed_lst (ds := [prD ([], List.range n)]) (ad_cons (ed_tup (ds := [nt [], nt (List.range n)]) (ad_cons (ed_tup (ds := []) ad_nil) (ad_cons (ed_tupRange T.b (ex_v 0) (by omega)) ad_nil))) ad_nil)) ?_
  refine sx_cons (s1_for (.one 4) (List.range (most + 1)) (fun m : Nat => .int (m : Int)) (fun i G' => ∃ (L : RL) (x4 x5 x6 x7 x8 x9 x10 : Ki), Sf n ms.length i L ∧ shr ms (most + 1) (L0 n) = shr ms (most + 1 - i) L ∧ G' = [.dat (.int n), .dat (moveD ms), .dat (.int most), .dat (.lst (L.map prD)), x4, x5, x6, x7, x8, x9, x10])
    (ixl_range T.b (ED.is (ed_add (ex_v 2) ex_int) rfl) (by omega)) (gx_one 4) ⟨L0 n, _, _, _, _, _, _, _, ⟨by simp [L0], fun rl h => by rw [List.mem_singleton.mp h]; rfl, fun rl h => by rw [List.mem_singleton.mp h]; exact ⟨List.length_range, fun x hx => List.mem_range.mp hx⟩, Nat.le_refl _⟩, rfl, rfl⟩ ?_) ?_
  · rintro i s hi G' ⟨L, x4, x5, x6, x7, x8, x9, x10, sf, hr, rfl⟩
    obtain ⟨hil, his⟩ := List.getElem?_eq_some_iff.mp hi
    rw [List.length_range] at hil
    have few := sf.few
    have p1 := pw i (by omega)
    have ef : ∀ L : RL, (L.filter fun rl => decide ((lot rl.2).length = 1)).map (fun rl => nt rl.1) = (sEnded L).map nt := fun L => by
      unfold sEnded
      rw [List.map_map]
      rfl
    refine sx_setLcf 7 (.two 5 6) [("_law_row", 5), ("_law_states", 6)] L prD (fun rl => nt rl.1) (fun rl => decide ((lot rl.2).length = 1)) (ix_lst (ex_v 3)) (gx_two 5 6) (fun rl h => TD.is (td_eq (ed_lenSet T.b (ns := rl.2) (ex_v 6) (fun x hx => by have := (sf.st rl h).2 x hx; omega) (by have := (sf.st rl h).1; omega)) ex_int) ?_) (fun rl h _ => ex_v 5) (by omega) ?_ (hf := fun rl _ => ⟨_, _, rfl⟩)
    · rw [Bool.eq_iff_iff, decide_eq_true_eq, decide_eq_true_eq]
      omega
    rw [ef]
    refine sx_cons (N1 := fun G' => G' = [.dat (.int n), .dat (moveD ms), .dat (.int most), .dat (.lst (L.map prD)), .dat (.int s), x5, x6, .dat (.lst ((sEnded L).map nt)), x8, x9, x10] ∧ sEnded L = []) (s1_if (td_gt (ed_len T.b (ex_v 7) (.lst ((sEnded L).map nt))) ex_int) (fun h => ?_) (fun h => sx_nil ⟨rfl, ?_⟩)) ?_
    · have hasc := sEnded_asc sf
      cases hz : sEnded L with
      | nil =>
        rw [hz] at h
        exact absurd (show true = false from h) (by decide)
      | cons r rs =>
        rw [hz] at hasc
        refine sx_one (s1_ret (ED.is (ed_minD T.b (d := nt r) (ds := rs.map nt) (ex_v 7) (pl_nts (r :: rs)) (alikeAll_nts (r :: rs)) (depthAll_nts (r :: rs)) (minD_head hasc) (fun x hx e => ?_)) ?_))
        · have hx' : x ∈ (r :: rs).map nt := hx
          obtain ⟨a, _, rfl⟩ := List.mem_map.mp hx'
          rw [py_inj_nt e]
        · rw [hr, show most + 1 - i = (most - i) + 1 by omega, shr, hz]
          rfl
    · cases hz : sEnded L with
      | nil => rfl
      | cons r rs =>
        rw [hz] at h
        have h' := of_decide_eq_false h.symm
        rw [List.map_cons, List.length_cons] at h'
        omega
    · rintro G' ⟨rfl, hz⟩
      refine sx_set 8 (eo_lst (ds := []) ad_nil) ?_
      let row (rl : List Nat × List Nat) : RL := (List.range ms.length).map fun m => (rl.1 ++ [m], rl.2.map (go (ldAt ms m)))
      refine sx_cons (s1_for (.two 5 6) L prD (fun j G' => ∃ (x4 x5 x6 x9 x10 : Ki), G' = [.dat (.int n), .dat (moveD ms), .dat (.int most), .dat (.lst (L.map prD)), x4, x5, x6, .dat (.lst ((sEnded L).map nt)), .ol (((L.take j).flatMap row).map prD), x9, x10]) (ix_lst (ex_v 3)) (gx_two 5 6) ⟨_, _, _, _, _, rfl⟩ ?_ (fun rl _ => ⟨_, _, rfl⟩)) ?_
      · rintro j rl hj G' ⟨x4, x5, x6, x9, x10, rfl⟩
        have hrl := List.mem_of_getElem? hj
        obtain ⟨q1, q2⟩ := sf.st rl hrl
        have q3 := sf.len rl hrl
        have hjl := (List.getElem?_eq_some_iff.mp hj).1
        have lenj : ((L.take j).flatMap row).length ≤ 4096 := by
          have := len_fm (l := L.take j) (f := row) (k := ms.length) fun x _ => by simp only [row, List.length_map, List.length_range]
          rw [this, List.length_take]
          have h5 : min j L.length * ms.length ≤ 1024 * 4 := Nat.mul_le_mul (by omega) h4
          omega
        have e2 : (L.take (j + 1)).flatMap row = (L.take j).flatMap row ++ row rl := by
          rw [List.take_add_one, hj, List.flatMap_append]
          simp
        rw [e2]
        generalize (L.take j).flatMap row = acc at lenj
        refine sx_one (S1.weaken (s1_for (.one 9) (List.range ms.length) (fun m : Nat => .int (m : Int)) (fun t G' => ∃ (x9 x10 : Ki), G' = [.dat (.int n), .dat (moveD ms), .dat (.int most), .dat (.lst (L.map prD)), x4, .dat (nt rl.1), .dat (nt rl.2), .dat (.lst ((sEnded L).map nt)), .ol ((acc ++ (List.range t).map fun m => (rl.1 ++ [m], rl.2.map (go (ldAt ms m)))).map prD), x9, x10])
          (ixl_range T.b (ED.is (ed_len T.b (ex_v 1) (.tup (ms.map Mv.d))) (by rw [hm])) (by omega)) (gx_one 9) ⟨_, _, by rw [List.range_zero, List.map_nil, List.append_nil]; rfl⟩ ?_) ?_)
        · rintro t m ht G' ⟨x9, x10, rfl⟩
          obtain ⟨htl, htm⟩ := List.getElem?_eq_some_iff.mp ht
          rw [List.length_range] at htl
          rw [List.getElem_range] at htm
          subst htm
          obtain ⟨_, _, _, g1, g2⟩ := A.at htl
          refine sx_one (S1.weaken (s1_append (R := A8.one (prD (rl.1 ++ [t], rl.2.map (go (ldAt ms t))))) 8 (ED.is (ed_tup (ds := [nt (rl.1 ++ [t]), nt (rl.2.map (go (ldAt ms t)))]) (ad_cons (ED.is (ed_cat (l := natsD rl.1) (m := [.int (t : Int)]) (ex_v 5) (ed_tup (ds := [.int (t : Int)]) (ad_cons (ex_v 9) ad_nil)) (by rw [natsD_len]; simp; omega)) ?_)
            (ad_cons (ed_tuple T.b (ed_lcN 10 [("_law_state", 10)] rl.2 (go (ldAt ms t)) (ix_tupT (ex_v 6)) (gx_one 10) (fun z hz => ed_ixT (ed_leadsT A htl (ex_v 1) (ex_v 9)) (ex_v 10) (atI_go g1 g2 (q2 z hz))) (by omega))) ad_nil))) rfl) (fun k hk => ⟨_, hk⟩) rfl ?_) ?_)
          · rw [nt_def, natsD_snoc]
          · rw [List.length_map, List.length_append, List.length_map, List.length_range]
            omega
          · rintro G' ⟨d', hd', rfl⟩
            cases hd'
            have e3 : (acc ++ (List.range (t + 1)).map fun m => (rl.1 ++ [m], rl.2.map (go (ldAt ms m)))).map prD = (acc ++ (List.range t).map fun m => (rl.1 ++ [m], rl.2.map (go (ldAt ms m)))).map prD ++ [prD (rl.1 ++ [t], rl.2.map (go (ldAt ms t)))] := by
              rw [List.range_succ, List.map_append, List.map_append, List.map_append, List.map_append, List.append_assoc]
              rfl
            exact ⟨_, _, by rw [e3]; rfl⟩
        · rintro G' ⟨x9, x10, rfl⟩
          rw [List.length_range]
          exact ⟨_, _, _, _, _, rfl⟩
      · rintro G' ⟨x4, x5, x6, x9, x10, rfl⟩
        rw [List.take_length]
        refine sx_freeze 8 rfl ?_
        refine sx_set 3 (ex_v 8) ?_
        have e4 : shr ms (most + 1) (L0 n) = shr ms (most + 1 - (i + 1)) (snext ms L) := by
          rw [hr, show most + 1 - i = (most - i) + 1 by omega, shr, hz, show most + 1 - (i + 1) = most - i by omega]
        exact sx_nil ⟨snext ms L, _, _, _, _, _, _, _, sf.next A h4, e4, rfl⟩
  · rintro G' ⟨L, x4, x5, x6, x7, x8, x9, x10, sf, hr, rfl⟩
    rw [List.length_range] at hr
    refine sx_one (s1_ret (ED.is ex_non ?_))
    rw [hr, Nat.sub_self]
    rfl
end
end A8
set_option Elab.async false
set_option linter.all false
set_option maxRecDepth 100000
set_option maxHeartbeats 1000000
namespace A8
open PySem PySem.Spec PyProof.Rows L2
variable {E : En} (T : Tx E) {f : Fm} {G : List Ki} {e a b c : Expr} {es : List Expr} {pos p : Pos}
/-! ### _law_grown -/
def IsPs (n : Nat) (ps : List (Nat × Nat)) : Prop := (∀ p ∈ ps, p.1 < p.2 ∧ p.2 < n) ∧ ps.length ≤ 200
def R_grown (ks : List Ki) (P : Ki → Prop) : Prop := ∃ (n : Nat) (ms : List Mv) (q : Nat × Nat), Aut n ms ∧ q.1 < q.2 ∧ q.2 < n ∧ ks = [.dat (moveD ms), .dat (pc q)] ∧ P = fun k => k = .dat .non ∨ ∃ ps, IsPs n ps ∧ k = .dat (.tup (ps.map pc))
theorem couplesL_mem {n : Nat} {p : Nat × Nat} (h1 : p.1 < p.2) (h2 : p.2 < n) : p ∈ couplesL n := by
  refine List.mem_flatMap.mpr ⟨p.1, List.mem_range.mpr (by omega), List.mem_map.mpr ⟨p.2 - (p.1 + 1), List.mem_range.mpr (by omega), ?_⟩⟩
  refine Prod.ext rfl ?_
  show p.1 + 1 + (p.2 - (p.1 + 1)) = p.2
  omega
/-- what a lot of a couple is -/
theorem led_pair {n : Nat} {ld : List Nat} (hn : n ≤ 12) (g1 : ld.length = n) (g2 : ∀ x ∈ ld, x < n) {q : Nat × Nat} (h1 : q.1 < n) (h2 : q.2 < n) : (led ld (pl2 q)).length = 1 ∨ ∃ r : Nat × Nat, r.1 < r.2 ∧ r.2 < n ∧ led ld (pl2 q) = pl2 r := by
  have hq : ∀ x ∈ pl2 q, x < n := fun x hx => by
    unfold pl2 at hx
    simp at hx
    omega
  have hm : ∀ y, y ∈ led ld (pl2 q) ↔ (go ld q.1 = y ∨ go ld q.2 = y) := fun y => by
    rw [mem_led hn g1 g2 hq]
    unfold pl2
    simp
  have ha : (led ld (pl2 q)).Pairwise (· < ·) := lot_asc _
  have hl := led_lt hn g1 g2 hq
  match hz : led ld (pl2 q), ha with
  | [], _ =>
    have := (hm (go ld q.1)).mpr (.inl rfl)
    rw [hz] at this
    cases this
  | [x], _ => exact .inl rfl
  | [x, y], ha =>
    right
    refine ⟨(x, y), ?_, hl y (by rw [hz]; simp), rfl⟩
    exact (List.pairwise_cons.mp ha).1 y (by simp)
  | x :: y :: z :: l, ha =>
    rw [List.pairwise_cons] at ha
    have h1 := ha.1 y (by simp)
    have h2 := ha.1 z (by simp)
    have h3 := (List.pairwise_cons.mp ha.2).1 z (by simp)
    have mx := (hm x).mp (by rw [hz]; simp)
    have my := (hm y).mp (by rw [hz]; simp)
    have mz := (hm z).mp (by rw [hz]; simp)
    omega
theorem sort_pcs (ps : List (Nat × Nat)) : (ps.map pc).mergeSort dle = (ps.mergeSort fun p q => dle (pc p) (pc q)).map pc := by
  rw [List.map_mergeSort]
  intro p _ q _
  rfl
/-! ### _law_nested -/
inductive Nice : Dt → Prop where
  | non : Nice .non
  | bl (b : Bool) : Nice (.bl b)
  | int (i : Int) : Nice (.int i)
  | str (x : Str) : Nice (.str x)
  | dic : Nice .dic
  | lst {l : List Dt} : (∀ d ∈ l, Nice d) → Nice (.lst l)
  | tup {l : List Dt} : l.length ≤ 200 → (∀ d ∈ l, Nice d) → Nice (.tup l)
theorem Nice.cls {d : Dt} (h : Nice d) : d.cls ≠ "" := by cases h <;> simp [Dt.cls]
theorem Nice.tuq {d : Dt} (h : Nice d) : ∀ l, d ≠ .tuq l := by cases h <;> exact fun l z => nomatch z
theorem Nice.items {l : List Dt} (h : Nice (.tup l)) : l.length ≤ 200 ∧ ∀ d ∈ l, Nice d := by
  cases h with
  | tup h1 h2 => exact ⟨h1, h2⟩
theorem Nice.nt (l : List Nat) (hl : l.length ≤ 200) : Nice (A8.nt l) := .tup (by rw [List.length_map]; exact hl) fun d hd => by
  obtain ⟨n, _, rfl⟩ := List.mem_map.mp hd
  exact .int _
def nice : Ki → Prop := fun k => ∃ d, Nice d ∧ k = .dat d
def R_nested (ks : List Ki) (P : Ki → Prop) : Prop := ks = [.hand] ∧ P = nice
def R_is (j : Nat) (ks : List Ki) (P : Ki → Prop) : Prop := ∃ d, (match j with | 0 => ∃ i, d = .int i | 1 => ∃ l : List Nat, l.length ≤ 5000 ∧ d = nt l | _ => ∃ l : List (List Nat), l.length ≤ 5000 ∧ (∀ x ∈ l, x.length ≤ 5000) ∧ d = .tup (l.map nt)) ∧ ks = [.dat d, .dat d] ∧ P = A8.one (.bl true)
section
include T
theorem ok_grown {fa : Addr} {fd : FuncData} (c1 : Cl E 1 "_law_led" R_led) (F : Fun E.K "_law_grown" "_law_grown" s_L_grown fa fd) : FnOk E.P E.w E.K E.mg E.base CX0 2 fa fd ["_law_moves_here", "_law_pair"] (spG E.K E.C R_grown) := by
  refine fn_ok F c_L_grown (fun ks P ⟨_, _, _, _, _, _, e, _⟩ => by rw [e]; rfl) (fun ks P ⟨n, ms, q, _, _, _, e, _⟩ => noOwn_dat [moveD ms, pc q] e) fun hd ks P h => ?_
  obtain ⟨n, ms, q0, A, hq1, hq2, rfl, rfl⟩ := h
  have h12 := A.n12
  have h24 := A.m24
  have hcl := couplesL_len h12
  have good : ∀ ps : List (Nat × Nat), ps.Nodup → (∀ p ∈ ps, p.1 < p.2 ∧ p.2 < n) → ps.length ≤ 144 := fun ps h1 h2 => Nat.le_trans (nodup_len h1 fun p hp => couplesL_mem (h2 p hp).1 (h2 p hp).2) hcl
  refine sx_cons (s1_par (Ra := fun k => k = .ol [pc q0]) (Rb := A8.one (.int ((0 : Nat) : Int))) 2 3 (eo_lst (ds := [pc q0]) (ad_cons (ex_v 1) ad_nil)) ex_int (fun k h => by rw [h]; trivial) (fun k h => by rw [h]; trivial)) ?_
  rintro G' ⟨k, k', rfl, rfl, rfl⟩
  refine sx_cons (N1 := fun G' => ∃ (ps : List (Nat × Nat)) (x3 x4 x5 x6 : Ki), ps.Nodup ∧ (∀ p ∈ ps, p.1 < p.2 ∧ p.2 < n) ∧ G' = [.dat (moveD ms), .dat (pc q0), .ol (ps.map pc), x3, x4, x5, x6])
    (s1_while (fun m G' => ∃ (ps : List (Nat × Nat)) (j : Nat) (x4 x5 x6 : Ki), ps.Nodup ∧ (∀ p ∈ ps, p.1 < p.2 ∧ p.2 < n) ∧ m = 200 - j ∧ j ≤ 144 ∧ G' = [.dat (moveD ms), .dat (pc q0), .ol (ps.map pc), .dat (.int (j : Int)), x4, x5, x6]) _ ⟨[q0], 0, .un, .un, .un, by simp, fun p hp => by rw [List.mem_singleton.mp hp]; exact ⟨hq1, hq2⟩, rfl, by decide, rfl⟩
      (fun m G' => match G'[3]?, G'[2]? with | some (Ki.dat (Dt.int j)), some (Ki.ol l) => decide (j < l.length) | _, _ => false) ?_ ?_ ?_) ?_
  · rintro m G' ⟨ps, j, x4, x5, x6, h1, h2, rfl, h3, rfl⟩
    exact td_lt (ex_v 3) (ed_lenV T.b (ex_vl 2))
  · rintro m G' ⟨ps, j, x4, x5, x6, h1, h2, rfl, h3, rfl⟩ hlt
    have hlt' : (j : Int) < ((ps.map pc).length : Int) := of_decide_eq_true hlt
    rw [List.length_map] at hlt'
    have hj : j < ps.length := by omega
    have hq := h2 ps[j] (List.getElem_mem hj)
    refine sx_cons (s1_for (.two 4 5) ms Mv.d (fun i G' => ∃ (qs : List (Nat × Nat)) (x4 x5 x6 : Ki), qs.Nodup ∧ (∀ p ∈ qs, p.1 < p.2 ∧ p.2 < n) ∧ qs[j]? = some ps[j] ∧ G' = [.dat (moveD ms), .dat (pc q0), .ol (qs.map pc), .dat (.int (j : Int)), x4, x5, x6]) (ix_tupT (ex_v 0)) (gx_two 4 5) ⟨ps, _, _, _, h1, h2, List.getElem?_eq_getElem hj, rfl⟩ ?_ (fun m _ => ⟨_, _, rfl⟩)) ?_
    · rintro i m hi G' ⟨qs, x4, x5, x6, g1, g2, g3, rfl⟩
      have hm := List.mem_of_getElem? hi
      obtain ⟨l1, l2⟩ := A.ld m hm
      have gl := good qs g1 g2
      have hat : atI (qs.map pc) ((j : Nat) : Int) = some (pc ps[j]) := atI_at (by rw [List.getElem?_map, g3]; rfl)
      have hpl : ∀ x ∈ pl2 ps[j], x < n := fun x hx => by
        unfold pl2 at hx
        simp at hx
        omega
      refine sx_set 6 (ed_call c1 (ad_cons (ex_v 5) (ad_cons (ed_ixV (ex_vl 2) (ex_v 3) hat) ad_nil)) ⟨n, m.ld, pl2 ps[j], h12, l1, l2, hpl, by unfold pl2; simp, rfl, rfl⟩) ?_
      rcases led_pair h12 l1 l2 (q := ps[j]) (by omega) hq.2 with ho | ⟨r, r1, r2, hr⟩
      · refine sx_cons (N1 := fun _ => False) (s1_if (TD.is (td_eq (ed_len T.b (ex_v 6) (.tup (natsD (led m.ld (pl2 ps[j]))))) ex_int) (b' := true) (by rw [natsD_len, ho]; rfl)) (fun _ => sx_one (s1_ret (EX.weaken ex_non fun k hk => .inl hk))) (fun h => by cases h)) fun _ h => h.elim
      · rw [hr]
        refine sx_cons (N1 := fun G' => G' = [.dat (moveD ms), .dat (pc q0), .ol (qs.map pc), .dat (.int (j : Int)), .dat (fr m.t m.b), .dat (nt m.ld), .dat (pc r)]) (s1_if (TD.is (td_eq (ed_len T.b (ex_v 6) (.tup (natsD (pl2 r)))) ex_int) (b' := false) (by rw [natsD_len]; rfl)) (fun h => by cases h) (fun _ => sx_nil rfl)) ?_
        rintro G' rfl
        by_cases hin : r ∈ qs
        · refine sx_one (S1.weaken (s1_extend (l := []) 2 (ex_if (TD.is (td_notin (d := pc r) (ex_v 6) (ex_vl 2) holdV (pl_nt _) (by rw [map_pc]; exact pl_nts _) (shaped_nt _) (by rw [map_pc]; exact shaped_nts _)) (b' := false) (by rw [inD_pc, decide_eq_true hin]; rfl)) (fun h => by cases h) (fun _ => ed_lst (ds := []) ad_nil)) rfl (by rw [List.length_map]; simp; omega)) ?_)
          rintro G' rfl
          exact ⟨qs, _, _, _, g1, g2, g3, by rw [List.append_nil]; rfl⟩
        · refine sx_one (S1.weaken (s1_extend (l := [pc r]) 2 (ex_if (TD.is (td_notin (d := pc r) (ex_v 6) (ex_vl 2) holdV (pl_nt _) (by rw [map_pc]; exact pl_nts _) (shaped_nt _) (by rw [map_pc]; exact shaped_nts _)) (b' := true) (by rw [inD_pc, decide_eq_false hin]; rfl)) (fun _ => ed_lst (ds := [pc r]) (ad_cons (ex_v 6) ad_nil)) (fun h => by cases h)) rfl (by rw [List.length_map]; simp; omega)) ?_)
          rintro G' rfl
          have n1 : (qs ++ [r]).Nodup := by
            rw [List.nodup_append]
            exact ⟨g1, by simp, fun x hx y hy => by rw [List.mem_singleton.mp hy]; exact fun e => hin (e ▸ hx)⟩
          have n2 : ∀ p ∈ qs ++ [r], p.1 < p.2 ∧ p.2 < n := fun p hp => by
            rcases List.mem_append.mp hp with z | z
            · exact g2 p z
            · rw [List.mem_singleton.mp z]; exact ⟨r1, r2⟩
          have n3 : (qs ++ [r])[j]? = some ps[j] := by
            rw [List.getElem?_append_left (List.getElem?_eq_some_iff.mp g3).1]
            exact g3
          exact ⟨qs ++ [r], _, _, _, n1, n2, n3, by rw [List.map_append]; rfl⟩
    · rintro G' ⟨qs, x4, x5, x6, g1, g2, g3, rfl⟩
      have gl := good qs g1 g2
      have hjq := (List.getElem?_eq_some_iff.mp g3).1
      refine sx_set 3 (ED.is (ed_add (ex_v 3) ex_int) (d' := .int ((j + 1 : Nat) : Int)) rfl) ?_
      exact sx_nil ⟨200 - (j + 1), by omega, qs, j + 1, _, _, _, g1, g2, rfl, by omega, rfl⟩
  · rintro m G' ⟨ps, j, x4, x5, x6, h1, h2, rfl, h3, rfl⟩ _
    exact ⟨ps, _, _, _, _, h1, h2, rfl⟩
  · rintro G' ⟨ps, x3, x4, x5, x6, h1, h2, rfl⟩
    have gl := good ps h1 h2
    refine sx_one (s1_ret ((ed_tuple T.b (ex_sortedD T.b (ex_vl 2) holdV (by rw [map_pc]; exact pl_nts _) (fun d hd => ?_) ?_ (by rw [List.length_map]; omega))).weaken fun k hk => .inr ⟨ps.mergeSort fun p q => dle (pc p) (pc q), ⟨fun p hp => h2 p (List.mem_mergeSort.mp hp), by rw [List.length_mergeSort]; omega⟩, by rw [hk, sort_pcs]⟩))
    · obtain ⟨p, _, rfl⟩ := List.mem_map.mp hd
      show (nt _).py.depth ≤ 64
      rw [depth_nt]
      decide
    · rw [map_pc]
      refine canSort_nts fun a ha => ?_
      obtain ⟨p, _, rfl⟩ := List.mem_map.mp ha
      unfold pl2
      simp
end
end A8
set_option Elab.async false
set_option linter.all false
set_option maxRecDepth 100000
set_option maxHeartbeats 1000000
namespace A8
open PySem PySem.Spec PyProof.Rows L2
variable {E : En} (T : Tx E) {f : Fm} {G : List Ki} {e a b c : Expr} {es : List Expr} {pos p : Pos}
theorem zip_self {α : Type} : ∀ l : List α, l.zip l = l.map fun x => (x, x)
  | [] => rfl
  | x :: l => by rw [List.zip_cons_cons, List.map_cons, zip_self l]
def R_turned (ks : List Ki) (P : Ki → Prop) : Prop := ks = [.hand, .dat (.int (12 : Nat))] ∧ P = fun k => ∃ ms : List Mv, k = .dat (moveD ms) ∧ ms.length = 2 ∧ ∀ m ∈ ms, IsLd 12 m.ld ∧ (m.t, m.b) = frl 1 2
section
include T
theorem ok_nested {fa : Addr} {fd : FuncData} (c1 : Cl E 1 "_law_draw" R_draw) (c2 : Cl E 2 "_law_any" R_any) (F : Fun E.K "_law_nested" "_law_nested" s_L_nested fa fd) : FnOk E.P E.w E.K E.mg E.base CX0 3 fa fd ["_law_hand_here"] (spG E.K E.C R_nested) := by
  refine fn_ok F c_L_nested (fun ks P ⟨e, _⟩ => by rw [e]; rfl) (fun ks P ⟨e, _⟩ => noOwn_hand [] e) fun hd ks P h => ?_
  obtain ⟨rfl, rfl⟩ := h
  refine sx_cons (s1_set 1 (ex_call (R := fun k => ∃ d ∈ [nt [], .int 0, .str "a", .non], k = .dat d) c2 (ad_k (ex_hand 0) (ad_cons (ed_lst (ds := [nt [], .int 0, .str "a", .non]) (ad_cons (ed_tup (ds := []) ad_nil) (ad_cons ex_int (ad_cons ex_str (ad_cons ex_non ad_nil))))) ad_nil)) (fun ks q => ⟨_, _, .inl rfl, by simp, by simp, q, rfl⟩)) (fun k hk => by obtain ⟨d, _, rfl⟩ := hk; trivial)) ?_
  rintro G' ⟨k, ⟨d, hd', rfl⟩, rfl⟩
  have hn : Nice d := by
    simp only [List.mem_cons, List.mem_singleton, List.not_mem_nil, or_false] at hd'
    rcases hd' with rfl | rfl | rfl | rfl
    · exact Nice.nt [] (by simp)
    · exact .int _
    · exact .str _
    · exact .non
  refine sx_cons (s1_for (.one 2) (List.range 24) (fun m : Nat => .int (m : Int)) (fun i G' => ∃ (d : Dt) (x2 : Ki), Nice d ∧ G' = [.hand, .dat d, x2]) (ixl_range T.b (n := 24) ex_int (by decide)) (gx_one 2) ⟨d, _, hn, rfl⟩ ?_) ?_
  · rintro i s hi G' ⟨d, x2, hn, rfl⟩
    refine sx_one (S1.weaken (s1_set 1 (R := nice) (ex_ixL (k := .dat (.lst [.lst [d], .tup [d], .dic])) (ed_lst (ds := [.lst [d], .tup [d], .dic]) (ad_cons (ed_lst (ds := [d]) (ad_cons (ex_v 1) ad_nil)) (ad_cons (ed_tup (ds := [d]) (ad_cons (ex_v 1) ad_nil)) (ad_cons (ed_dispI ex_int (ex_v 1)) ad_nil))))
      (fun F H v w k => by cases (show Rp E.K E.C F _ (.lst _) from k) with | lst h r => exact ⟨_, _, rfl, SqL.of (w.ex _ _ h), r⟩) (ei_draw c1 (m := 3) (ex_hand 0) ex_int (by decide) (by decide)) (fun j hj => ?_)) (fun k hk => by obtain ⟨_, _, rfl⟩ := hk; trivial)) ?_)
    · obtain ⟨j0, j1⟩ := hj
      obtain ⟨t, rfl⟩ := Int.eq_ofNat_of_zero_le j0
      have h1 : ∀ x ∈ [d], Nice x := fun x hx => by rw [List.mem_singleton.mp hx]; exact hn
      match t, j1 with
      | 0, _ => exact ⟨_, atI_at (j := 0) rfl, _, .lst h1, rfl⟩
      | 1, _ => exact ⟨_, atI_at (j := 1) rfl, _, .tup (by simp) h1, rfl⟩
      | 2, _ => exact ⟨_, atI_at (j := 2) rfl, _, .dic, rfl⟩
      | t + 3, h => omega
    · rintro G' ⟨k, ⟨d', hd', rfl⟩, rfl⟩
      exact ⟨d', _, hd', rfl⟩
  · rintro G' ⟨d, x2, hn, rfl⟩
    exact sx_one (s1_ret ((ex_v 1).weaken fun k hk => ⟨d, hn, hk⟩))
theorem ok_is0 {fa : Addr} {fd : FuncData} (F : Fun E.K "_law_is" "_law_is" s_L_is fa fd) : FnOk E.P E.w E.K E.mg E.base CX0 1 fa fd ["_law_told", "_law_due"] (spG E.K E.C (R_is 0)) := by
  refine fn_ok F c_L_is (fun ks P ⟨_, _, e, _⟩ => by rw [e]; rfl) (fun ks P ⟨d, _, e, _⟩ => noOwn_dat [d, d] e) fun hd ks P h => ?_
  obtain ⟨d, ⟨i, rfl⟩, rfl, rfl⟩ := h
  refine sx_cons (N1 := fun G' => G' = [.dat (.int i), .dat (.int i), .un, .un]) (s1_if (td_val (ed_isaTL T.b (ex_v 1) cint)) (fun h => by cases h) (fun h => sx_nil rfl)) ?_
  rintro G' rfl
  refine sx_one (s1_ret (ED.is (ed_and (ed_eqB (ed_isaBool T.b (ex_v 0) cint) (ed_isaBool T.b (ex_v 1) cint)) fun _ => ed_one (ed_eq (ex_v 0) (ex_v 1))) ?_))
  simp
theorem is_seq {fa : Addr} {fd : FuncData} (F : Fun E.K "_law_is" "_law_is" s_L_is fa fd) (j k : Nat) (hk : Nat.ble (k + 1) (k + 1) = true) (cj : Cl E (k + 1) "_law_is" (R_is j)) (hd : Hd) (l : List Dt) (hl : l.length ≤ 5000) (hx : ∀ x ∈ l, ∃ P, R_is j [.dat x, .dat x] P ∧ P = A8.one (.bl true)) :
    SX E ⟨n_L_is, defScope s_L_is, fun _ => true, k + 1, hd⟩ (defBody s_L_is) [.dat (.tup l), .dat (.tup l), .un, .un] (fun _ => False) (fun k _ => A8.one (.bl true) k) := by
  refine sx_cons (N1 := fun _ => False) (s1_if (TD.is (td_val (ed_isaTL T.b (ex_v 1) ctup)) (b' := true) rfl) (fun h => ?_) (fun h => by cases h)) fun _ h => h.elim
  refine sx_cons (N1 := fun G' => G' = [.dat (.tup l), .dat (.tup l), .un, .un]) (s1_if (TD.is (WX.tx (wd_or (td_neB (ed_isaTup T.b (ex_v 0) ctup) (ed_isaTup T.b (ex_v 1) ctup)) fun _ => wd_or1 (td_not (td_val (ed_isaTL T.b (ex_v 0) ctup))))) (b' := false) (by simp [Dt.isa, isaC, Dt.cls])) (fun h => by cases h) (fun h => sx_nil rfl)) ?_
  rintro G' rfl
  refine sx_one (s1_ret (ED.is (ed_and (ed_eq (ed_len T.b (ex_v 0) (.tup l)) (ed_len T.b (ex_v 1) (.tup l))) fun _ => ed_one (ed_all T.b (bs := l.map fun _ => true) (ED.is (ed_lc (.two 2 3) [("_law_one", 2), ("_law_two", 3)] l (fun x => .tup [x, x]) (fun _ => .bl true) (IX.weaken (ixl_zipT T.b (ex_v 0) (ex_v 1) rfl) fun ds h => ?_) (gx_two 2 3) (fun x hx' => ?_) (by omega) (fun x _ => ⟨_, _, rfl⟩)) ?_))) ?_))
  · rw [h, zip_self, List.map_map]
    rfl
  · obtain ⟨P, hP, rfl⟩ := hx x hx'
    exact ed_call cj (ad_cons (ex_v 2) (ad_cons (ex_v 3) ad_nil)) hP hk
  · rw [List.map_map]
    rfl
  · simp
theorem ok_is1 {fa : Addr} {fd : FuncData} (c0 : Cl E 1 "_law_is" (R_is 0)) (F : Fun E.K "_law_is" "_law_is" s_L_is fa fd) : FnOk E.P E.w E.K E.mg E.base CX0 2 fa fd ["_law_told", "_law_due"] (spG E.K E.C (R_is 1)) := by
  refine fn_ok F c_L_is (fun ks P ⟨_, _, e, _⟩ => by rw [e]; rfl) (fun ks P ⟨d, _, e, _⟩ => noOwn_dat [d, d] e) fun hd ks P h => ?_
  obtain ⟨d, ⟨l, hl, rfl⟩, rfl, rfl⟩ := h
  refine SX.weaken (is_seq T F 0 0 rfl c0 hd (natsD l) (by rw [natsD_len]; exact hl) fun x hx => ?_) fun G' h => h.elim
  obtain ⟨n, _, rfl⟩ := List.mem_map.mp hx
  exact ⟨_, ⟨_, ⟨_, rfl⟩, rfl, rfl⟩, rfl⟩
theorem ok_is2 {fa : Addr} {fd : FuncData} (c1 : Cl E 2 "_law_is" (R_is 1)) (F : Fun E.K "_law_is" "_law_is" s_L_is fa fd) : FnOk E.P E.w E.K E.mg E.base CX0 3 fa fd ["_law_told", "_law_due"] (spG E.K E.C (R_is 2)) := by
  refine fn_ok F c_L_is (fun ks P ⟨_, _, e, _⟩ => by rw [e]; rfl) (fun ks P ⟨d, _, e, _⟩ => noOwn_dat [d, d] e) fun hd ks P h => ?_
  obtain ⟨d, ⟨l, hl, hll, rfl⟩, rfl, rfl⟩ := h
  refine SX.weaken (is_seq T F 1 1 rfl c1 hd (l.map nt) (by rw [List.length_map]; exact hl) fun x hx => ?_) fun G' h => h.elim
  obtain ⟨n, hn, rfl⟩ := List.mem_map.mp hx
  exact ⟨_, ⟨_, ⟨n, hll n hn, rfl⟩, rfl, rfl⟩, rfl⟩
theorem ok_turned {fa : Addr} {fd : FuncData} (c1 : Cl E 1 "_law_draw" R_draw) (c2 : Cl E 2 "_law_any" R_any) (cl : Cl E 1 "_law_low" R_low) (F : Fun E.K "_law_turned" "_law_turned" s_L_turned fa fd) : FnOk E.P E.w E.K E.mg E.base CX0 3 fa fd ["_law_hand_here", "_law_many"] (spG E.K E.C R_turned) := by
  refine fn_ok F c_L_turned (fun ks P ⟨e, _⟩ => by rw [e]; rfl) (fun ks P ⟨e, _⟩ => noOwn_hand [.int (12 : Nat)] e) fun hd ks P h => ?_
  obtain ⟨rfl, rfl⟩ := h
  refine sx_cons (s1_par (Ra := fun k => k = .ol []) (Rb := fun k => k = .ol (natsD (List.range 12))) 2 3 (eo_lst (ds := []) ad_nil) (eo_listRange T.b (ex_v 1) (by omega)) (fun k h => by rw [h]; trivial) (fun k h => by rw [h]; trivial)) ?_
  rintro G' ⟨k, k', rfl, rfl, rfl⟩
  refine sx_cons (s1_for (.one 4) (List.range 12) (fun m : Nat => .int (m : Int)) (fun i G' => ∃ (fs ss : List Nat) (x4 : Ki), fs.length = i ∧ ss.length = 12 - i ∧ (∀ x ∈ fs, x < 12) ∧ (∀ x ∈ ss, x < 12) ∧ G' = [.hand, .dat (.int (12 : Nat)), .ol (natsD fs), .ol (natsD ss), x4, .un, .un, .un, .un]) (ixl_range T.b (ex_v 1) (by omega)) (gx_one 4) ⟨[], List.range 12, _, rfl, by rw [List.length_range], (fun x hx => nomatch hx), fun x hx => List.mem_range.mp hx, rfl⟩ ?_) ?_
  · rintro i s hi G' ⟨fs, ss, x4, hfl, hsl, hf, hs, rfl⟩
    obtain ⟨hil, his⟩ := List.getElem?_eq_some_iff.mp hi
    rw [List.length_range] at hil
    refine sx_one (S1.weaken (s1_appPop (ds := natsD fs) (l := natsD ss) 2 3 (ei_draw c1 (m := ss.length) (ex_hand 0) (ED.is (ed_lenV T.b (ex_vl 3)) (by rw [natsD_len])) (by omega) (by omega)) (fun k hk => by rw [natsD_len]; exact hk) (by decide) rfl rfl (by rw [natsD_len]; omega) (by rw [natsD_len]; omega)) ?_)
    rintro G' ⟨k, d, hk, hd', rfl⟩
    have hkl : k < ss.length := by omega
    have hd2 : d = .int (ss[k] : Nat) := by
      unfold natsD at hd'
      rw [List.getElem?_map, List.getElem?_eq_getElem hkl] at hd'
      exact (Option.some.inj hd').symm
    have hmem := List.getElem_mem hkl
    have hx' : ∀ x ∈ fs ++ [ss[k]], x < 12 := fun x hx => by
      rcases List.mem_append.mp hx with q | q
      · exact hf x q
      · rw [List.mem_singleton.mp q]; exact hs _ hmem
    exact ⟨fs ++ [ss[k]], ss.eraseIdx k, _, by rw [List.length_append, hfl]; rfl, by rw [List.length_eraseIdx_of_lt hkl]; omega, hx', fun x hx => hs x (List.mem_of_mem_eraseIdx hx), by rw [natsD_snoc, natsD_erase, hd2]; rfl⟩
  rintro G' ⟨os, ss, x4, hol, _, ho, _, rfl⟩
  rw [List.length_range] at hol
  have hat : ∀ i, i < 12 → ∃ y, y < 12 ∧ atI (natsD os) ((i : Nat) : Int) = some (.int ((y : Nat) : Int)) := fun i hi => by
    have h1 : i < os.length := by omega
    refine ⟨os[i], ho _ (List.getElem_mem h1), atI_at ?_⟩
    unfold natsD
    rw [List.getElem?_map, List.getElem?_eq_getElem h1]
    rfl
  refine sx_cons (s1_par (Ra := fun k => k = .ol (natsD (List.range 12))) (Rb := fun k => k = .ol (natsD (List.range 12))) 5 6 (eo_listRange T.b (ex_v 1) (by omega)) (eo_listRange T.b (ex_v 1) (by omega)) (fun k h => by rw [h]; trivial) (fun k h => by rw [h]; trivial)) ?_
  rintro G' ⟨k, k', rfl, rfl, rfl⟩
  refine sx_cons (s1_for (.one 7) (List.range 12) (fun m : Nat => .int (m : Int)) (fun i G' => ∃ (rs : List Nat) (x7 : Ki), IsLd 12 rs ∧ G' = [.hand, .dat (.int (12 : Nat)), .ol (natsD os), .ol (natsD ss), x4, .ol (natsD rs), .ol (natsD (List.range 12)), x7, .un]) (ixl_range T.b (ex_v 1) (by omega)) (gx_one 7) ⟨List.range 12, _, ⟨List.length_range, fun x hx => List.mem_range.mp hx⟩, rfl⟩ ?_) ?_
  · rintro i s hi G' ⟨rs, x7, ⟨hr1, hr2⟩, rfl⟩
    obtain ⟨hil, his⟩ := List.getElem?_eq_some_iff.mp hi
    rw [List.length_range] at hil
    rw [List.getElem_range] at his
    subst his
    obtain ⟨y, hy, ey⟩ := hat i hil
    obtain ⟨z, hz, ez⟩ := hat ((i + 1) % 12) (Nat.mod_lt _ (by decide))
    refine sx_one (S1.weaken (s1_setAt (ds := natsD rs) (R := A8.one (.int ((z : Nat) : Int))) (P' := fun q => q = (y : Int)) 5 (ed_ixV (ex_vl 2) (i := (((i + 1) % 12 : Nat) : Int)) (ED.is (ed_mod (ed_toInt T.b (ed_add (ex_v 7) ex_int)) (ex_v 1) (by decide)) (by congr 1)) ez) (fun k hk => ⟨_, hk⟩) (ED.ii (ed_ixV (ex_vl 2) (ex_v 7) ey)) (fun q hq => by rw [hq, natsD_len]; omega) rfl (by rw [natsD_len]; omega)) ?_)
    rintro G' ⟨d, j, hd', hj, rfl⟩
    cases hd'
    have hx' : ∀ x ∈ rs.set j z, x < 12 := fun x hx => by
      rcases List.mem_or_eq_of_mem_set hx with q | q
      · exact hr2 x q
      · rw [q]; exact hz
    exact ⟨rs.set j z, _, ⟨by rw [List.length_set]; exact hr1, hx'⟩, by rw [natsD_set]; rfl⟩
  rintro G' ⟨rs, x7, hrs, rfl⟩
  obtain ⟨y, hy, ey⟩ := hat 0 (by decide)
  refine sx_cons (s1_setAt (ds := natsD (List.range 12)) (R := fun k => ∃ z : Nat, z < 12 ∧ k = .dat (.int (z : Int))) (P' := fun q => q = (y : Int)) 6 (ex_ixL (k := .vl (natsD os)) (P := fun q => q = 1 ∨ q = 11 ∨ q = 5) (ex_vl 2) (fun F H v w ⟨a, xs, e, h, r, _⟩ => ⟨a, xs, e, SqL.of h, r⟩) (EX.weaken (ex_call (R := fun k => ∃ d ∈ [Dt.int 1, .int 1, .int 1, .int 11, .int 5], k = .dat d) c2 (ad_k (ex_hand 0) (ad_cons (ed_lst (ds := [.int 1, .int 1, .int 1, .int 11, .int 5]) (ad_cons ex_int (ad_cons ex_int (ad_cons ex_int (ad_cons (ED.is (ed_sub (ex_v 1) ex_int) rfl) (ad_cons ex_int ad_nil)))))) ad_nil)) (fun ks q => ⟨_, _, .inl rfl, by simp, by simp, q, rfl⟩)) fun k hk => ?_) (fun j hj => ?_))
    (fun k hk => by obtain ⟨z, _, rfl⟩ := hk; exact ⟨_, rfl⟩) (ED.ii (ed_ixV (ex_vl 2) ex_int ey)) (fun q hq => by rw [hq, natsD_len, List.length_range]; omega) rfl (by rw [natsD_len, List.length_range]; omega)) ?_
  · obtain ⟨d, hd', rfl⟩ := hk
    simp only [List.mem_cons, List.mem_singleton, List.not_mem_nil, or_false] at hd'
    rcases hd' with rfl | rfl | rfl | rfl | rfl
    · exact ⟨_, .inl rfl, rfl⟩
    · exact ⟨_, .inl rfl, rfl⟩
    · exact ⟨_, .inl rfl, rfl⟩
    · exact ⟨_, .inr (.inl rfl), rfl⟩
    · exact ⟨_, .inr (.inr rfl), rfl⟩
  · rcases hj with rfl | rfl | rfl
    · obtain ⟨z, hz, ez⟩ := hat 1 (by decide); exact ⟨_, ez, z, hz, rfl⟩
    · obtain ⟨z, hz, ez⟩ := hat 11 (by decide); exact ⟨_, ez, z, hz, rfl⟩
    · obtain ⟨z, hz, ez⟩ := hat 5 (by decide); exact ⟨_, ez, z, hz, rfl⟩
  rintro G' ⟨d, j, ⟨z, hz, hd'⟩, _, rfl⟩
  cases hd'
  have hst : IsLd 12 ((List.range 12).set j z) := ⟨by rw [List.length_set, List.length_range], fun x hx => by
    rcases List.mem_or_eq_of_mem_set hx with q | q
    · exact List.mem_range.mp q
    · rw [q]; exact hz⟩
  let m1 : Mv := ⟨(frl 1 2).1, (frl 1 2).2, rs⟩
  let m2 : Mv := ⟨(frl 1 2).1, (frl 1 2).2, (List.range 12).set j z⟩
  have low : ∀ {G : List Ki}, R_low [.dat (.int 1), .dat (.int 2)] (A8.one (frp (frl 1 2))) := fun {_} => ⟨1, 2, by decide, by decide, rfl, rfl⟩
  refine sx_set 8 (k := .dat (moveD [m1, m2])) (ed_tup (ds := [m1.d, m2.d]) (ad_cons (ed_tup (ds := [frp (frl 1 2), nt rs]) (ad_cons (ed_call cl (ad_cons ex_int (ad_cons ex_int ad_nil)) (low (G := []))) (ad_cons (ed_tupleV (l := natsD rs) T.b (ex_vl 5)) ad_nil))) (ad_cons (ed_tup (ds := [frp (frl 1 2), nt ((List.range 12).set j z)]) (ad_cons (ed_call cl (ad_cons ex_int (ad_cons ex_int ad_nil)) (low (G := []))) (ad_cons (ed_tupleV (l := natsD ((List.range 12).set j z)) T.b (by rw [natsD_set]; exact ex_vl 6)) ad_nil))) ad_nil))) ?_
  have hms : ∀ m ∈ [m1, m2], IsLd 12 m.ld ∧ (m.t, m.b) = frl 1 2 := fun m hm => by
    simp only [List.mem_cons, List.mem_singleton, List.not_mem_nil, or_false] at hm
    rcases hm with rfl | rfl
    · exact ⟨hrs, rfl⟩
    · exact ⟨hst, rfl⟩
  refine sx_one (s1_ret (ex_if (ti_eq (ei_draw c1 (m := 2) (ex_hand 0) ex_int (by decide) (by decide)) (ED.ii ex_int)) (fun _ => (ex_v 8).weaken fun k hk => ⟨[m1, m2], hk, rfl, hms⟩) (fun _ => (ed_rev (l := [m1.d, m2.d]) (ex_v 8)).weaken fun k hk => ⟨[m2, m1], hk, rfl, fun m hm => hms m (by simp at hm ⊢; exact hm.symm)⟩)))
end
end A8
set_option Elab.async false
set_option linter.all false
set_option maxRecDepth 100000
set_option maxHeartbeats 1000000
namespace A8
open PySem PySem.Spec PyProof.Rows L2
variable {E : En} (T : Tx E) {f : Fm} {G : List Ki} {e a b c : Expr} {es : List Expr} {pos p : Pos}
def R_books (ks : List Ki) (P : Ki → Prop) : Prop := ∃ (n : Nat) (ms : List Mv) (ps : List (Nat × Nat)), Aut n ms ∧ (∀ p ∈ ps, p.1 < p.2 ∧ p.2 < n) ∧ ps.length ≤ 144 ∧ ks = [.hand, .dat (.int n), .dat (moveD ms), .dat (.tup (ps.map pc))] ∧ P = fun k => ∃ d1 d2 d3, Nice d1 ∧ Nice d2 ∧ Nice d3 ∧ k = .dat (.lst [d1, d2, d3])
def NL (ds : List Dt) : Prop := ds.length ≤ 60 ∧ 1 ≤ ds.length ∧ ∀ d ∈ ds, Nice d
theorem nice_pc (p : Nat × Nat) : Nice (pc p) := Nice.nt _ (by simp)
theorem nice_pcs {l : List Dt} (h : ∀ d ∈ l, ∃ p, d = pc p) (hl : l.length ≤ 200) : Nice (.tup l) := .tup hl fun d hd => by
  obtain ⟨p, rfl⟩ := h d hd
  exact nice_pc p
theorem cutD_sub {l : List Dt} {lo hi : Option Int} : (cutD l lo hi).length ≤ l.length ∧ ∀ d ∈ cutD l lo hi, d ∈ l := by
  unfold cutD
  refine ⟨by rw [List.length_take, List.length_drop]; omega, fun d hd => List.mem_of_mem_drop (List.mem_of_mem_take hd)⟩
theorem ex_anyN {G : List Ki} {a b : Expr} (c2 : Cl E 2 "_law_any" R_any) (ha : EX E f a G (fun k => k = .hand)) (hb : EX E f b G (fun k => ∃ l, NL l ∧ k = .dat (.lst l))) (hk : Nat.ble 2 f.k = true := by rfl) (hg : GlS f.sc "_law_any" := by rfl)
    (he : ∀ env : Env, starEach [a, b] env = (false, eval a env) :: starEach [b] env := by intro _; rfl) (hs : ∀ env : Env, starEach [b] env = (false, eval b env) :: starEach [] env := by intro _; rfl) (hpl : ∀ env : Env, (backTo pos (starEach [b] env)).any (·.1) = false := by intro _; rfl) : EX E f (.Call (.Name "_law_any" p) [a, b] [] pos) G nice :=
  ex_callW c2 (ax_cons ha (ax_cons hb ax_nil hs) he) (fun ks ⟨k, r, e1, e2, k', r', e3, ⟨l, ⟨l1, l2, l3⟩, e4⟩, e5⟩ => ⟨fun k => ∃ d ∈ l, k = .dat d, ⟨_, l, .inl rfl, l2, by omega, by rw [e1, e2, e3, e4, e5], rfl⟩, fun k ⟨d, hd, e⟩ => ⟨d, l3 d hd, e⟩⟩) hk hg (by decide) he hpl
section
include T
theorem ok_books {fa : Addr} {fd : FuncData} (c1 : Cl E 1 "_law_draw" R_draw) (c2 : Cl E 2 "_law_any" R_any) (cc : Cl E 1 "_law_couples" R_couples) (cg : Cl E 2 "_law_grown" R_grown) (cn : Cl E 3 "_law_nested" R_nested) (F : Fun E.K "_law_books" "_law_books" s_L_books fa fd) :
    FnOk E.P E.w E.K E.mg E.base CX0 4 fa fd ["_law_hand_here", "_law_many", "_law_moves_here", "_law_due"] (spG E.K E.C R_books) := by
  refine fn_ok F c_L_books (fun ks P ⟨_, _, _, _, _, _, e, _⟩ => by rw [e]; rfl) (fun ks P ⟨n, ms, ps, _, _, _, e, _⟩ => noOwn_hand [.int n, moveD ms, .tup (ps.map pc)] e) fun hd ks P h => ?_
  obtain ⟨n, ms, ps, A, hps, hpl, rfl, rfl⟩ := h
  have h12 := A.n12
  have hcl := couplesL_len h12
  have hlen : (ps.map pc).length = ps.length := List.length_map ..
  have isp : ∀ d ∈ ps.map pc, ∃ p, d = pc p := fun d hd => by
    obtain ⟨p, _, rfl⟩ := List.mem_map.mp hd
    exact ⟨p, rfl⟩
  have iscp : ∀ d ∈ (couplesL n).map pc, ∃ p, d = pc p := fun d hd => by
    obtain ⟨p, _, rfl⟩ := List.mem_map.mp hd
    exact ⟨p, rfl⟩
  have dueN : Nice (.tup (ps.map pc)) := nice_pcs isp (by omega)
  refine sx_set 4 (ed_call cc (ad_cons (ex_v 1) ad_nil) ⟨n, h12, rfl, rfl⟩) ?_
  refine sx_cons (s1_set 5 (R := fun k => ∃ ds : List Dt, (ds.length = 4 ∧ ∀ d ∈ ds, Nice d) ∧ k = .dat (.lst ds)) (ex_lstS (S := fun ds => ds.length = 4 ∧ ∀ d ∈ ds, Nice d) (ax_cons (ex_v 3) (ax_cons (ex_tupleS (S := fun l => ∃ qs : List (Nat × Nat), qs.length ≤ 144 ∧ l = qs.map pc) T.b (EX.weaken (ex_lc (.one 9) [("_law_pair", 9)] (fun l => l = couplesL n) pc (fun _ _ => True) (fun x d => d = pc x) (IX.weaken (ix_lst (ex_v 4)) fun ds h => ⟨_, rfl, h⟩) (gx_one 9) (fun _ _ _ _ => tsx_one (TX.weaken (ti_eq (ei_draw c1 (m := 2) (ex_hand 0) ex_int (by decide) (by decide)) (ED.ii ex_int)) fun _ _ => trivial)) (fun l hl x hx _ => (ex_v 9).weaken fun k hk => ⟨_, rfl, hk⟩) (fun _ _ _ _ => trivial) (fun l hl => by rw [hl]; omega)) fun k hk => ?_))
    (ax_cons (ed_tuple T.b (ex_v 4)) (ax_cons (ed_tup (ds := []) ad_nil) ax_nil)))) (fun ks hk => ?_)) (fun k hk => by obtain ⟨_, _, rfl⟩ := hk; trivial)) ?_
  · obtain ⟨l, ds, rfl, out, rfl⟩ := hk
    obtain ⟨l', h1, rfl⟩ := LcOut.sub out
    exact ⟨_, ⟨l', Nat.le_trans h1.length_le hcl, rfl⟩, rfl⟩
  · obtain ⟨k1, r1, rfl, rfl, k2, r2, rfl, ⟨l, ⟨qs, hq, rfl⟩, rfl⟩, k3, r3, rfl, rfl, k4, r4, rfl, rfl, rfl⟩ := hk
    refine ⟨[.tup (ps.map pc), .tup (qs.map pc), .tup ((couplesL n).map pc), nt []], ⟨rfl, fun d hd => ?_⟩, by simp, rfl⟩
    simp only [List.mem_cons, List.mem_singleton, List.not_mem_nil, or_false] at hd
    rcases hd with rfl | rfl | rfl | rfl
    · exact dueN
    · exact nice_pcs (fun d hd => by obtain ⟨p, _, rfl⟩ := List.mem_map.mp hd; exact ⟨p, rfl⟩) (by rw [List.length_map]; omega)
    · exact nice_pcs iscp (by rw [List.length_map]; omega)
    · exact Nice.nt [] (by simp)
  rintro G' ⟨k, ⟨some0, ⟨s1, s3⟩, rfl⟩, rfl⟩
  refine sx_cons (N1 := fun G' => ∃ (sm : List Dt) (x6 x7 : Ki), NL sm ∧ G' = [.hand, .dat (.int n), .dat (moveD ms), .dat (.tup (ps.map pc)), .dat (.lst ((couplesL n).map pc)), .dat (.lst sm), x6, x7, .un, .un]) (S1.weaken (s1_if (N := fun G' => ∃ (sm : List Dt) (x6 x7 : Ki), sm.length ≤ some0.length + 20 ∧ 1 ≤ sm.length ∧ (∀ d ∈ sm, Nice d) ∧ G' = [.hand, .dat (.int n), .dat (moveD ms), .dat (.tup (ps.map pc)), .dat (.lst ((couplesL n).map pc)), .dat (.lst sm), x6, x7, .un, .un]) (td_gt (ed_len T.b (ex_v 3) (.tup (ps.map pc))) ex_int) (fun h => ?_) (fun h => sx_nil ⟨some0, _, _, by omega, by omega, s3, rfl⟩)) ?_) ?_
  · have h0 : 1 ≤ ps.length := by
      have := of_decide_eq_true h.symm
      rw [hlen] at this
      omega
    refine sx_cons (s1_par (Rb := nice) 6 7 (ei_draw c1 (m := ps.length) (ex_hand 0) (ED.is (ed_len T.b (ex_v 3) (.tup (ps.map pc))) (by rw [hlen])) h0 (by omega)) (ex_callW cg (ax_cons (ex_v 2) (ax_cons (ex_callW (R := fun k => ∃ q ∈ ps, k = .dat (pc q)) c2 (ad_k (ex_hand 0) (ad_cons (ex_v 3) ad_nil)) (fun ks q => ⟨fun k => ∃ d ∈ ps.map pc, k = .dat d, ⟨_, _, .inr rfl, by omega, by omega, q, rfl⟩, fun k ⟨d, hd, e⟩ => ?_⟩)) ax_nil)) (fun ks hk => ?_)) (fun k hk => by obtain ⟨_, _, rfl⟩ := hk; trivial) (fun k hk => by obtain ⟨_, _, rfl⟩ := hk; trivial)) ?_
    · obtain ⟨q, hq, rfl⟩ := List.mem_map.mp hd
      exact ⟨q, hq, e⟩
    · obtain ⟨k1, r1, rfl, rfl, k2, r2, rfl, ⟨q, hq, rfl⟩, rfl⟩ := hk
      refine ⟨_, ⟨n, ms, q, A, (hps q hq).1, (hps q hq).2, rfl, rfl⟩, fun k hk => ?_⟩
      rcases hk with rfl | ⟨qs, ⟨_, q2⟩, rfl⟩
      · exact ⟨_, .non, rfl⟩
      · exact ⟨_, nice_pcs (fun d hd => by obtain ⟨p, _, rfl⟩ := List.mem_map.mp hd; exact ⟨p, rfl⟩) (by rw [List.length_map]; omega), rfl⟩
    rintro G' ⟨k, k', ⟨j0, ⟨j1, j2⟩, rfl⟩, ⟨g, hg, rfl⟩, rfl⟩
    obtain ⟨j, rfl⟩ := Int.eq_ofNat_of_zero_le j1
    have hj : j < ps.length := by omega
    have hat : atI (ps.map pc) ((j : Nat) : Int) = some (pc ps[j]) := atI_at (by rw [List.getElem?_map, List.getElem?_eq_getElem hj]; rfl)
    have c1l := (cutD_sub (l := ps.map pc) (lo := none) (hi := some (j : Int))).1
    have c2l := (cutD_sub (l := ps.map pc) (lo := some ((j : Int) + 1)) (hi := none)).1
    have c3l := (cutD_sub (l := ps.map pc) (lo := none) (hi := some 1)).1
    have c1m := (cutD_sub (l := ps.map pc) (lo := none) (hi := some (j : Int))).2
    have c2m := (cutD_sub (l := ps.map pc) (lo := some ((j : Int) + 1)) (hi := none)).2
    have c3m := (cutD_sub (l := ps.map pc) (lo := none) (hi := some 1)).2
    have c1x : (cutD (ps.map pc) none (some (j : Int))).length ≤ j := by rw [cut_to]; exact List.length_take_le _ _
    have c2x : (cutD (ps.map pc) (some ((j : Int) + 1)) none).length ≤ ps.length - (j + 1) := by
      rw [show ((j : Int) + 1) = ((j + 1 : Nat) : Int) by omega, cut_from, List.length_drop, hlen]
      exact Nat.le_refl _
    have c3x : (cutD (ps.map pc) none (some 1)).length ≤ 1 := by
      rw [show (1 : Int) = ((1 : Nat) : Int) from rfl, cut_to]
      exact List.length_take_le _ _
    rw [hlen] at c1l c2l c3l
    have npc : ∀ d ∈ ps.map pc, Nice d := fun d hd => by
      obtain ⟨p, rfl⟩ := isp d hd
      exact nice_pc p
    refine sx_set 5 (ed_catL (ex_v 5) (ed_lst (ds := [g, g, .tup (cutD (ps.map pc) none (some (j : Int)) ++ cutD (ps.map pc) (some ((j : Int) + 1)) none), .tup (ps.map pc).reverse, .tup (ps.map pc ++ cutD (ps.map pc) none (some 1)), .lst (ps.map pc), .tup (cutD (ps.map pc) none (some 1))])
      (ad_cons (ex_v 7) (ad_cons (ex_v 7) (ad_cons (ed_cat (ed_slTo (ex_v 3) (ex_v 6)) (ed_slFrom (ex_v 3) (ed_add (ex_v 6) ex_int)) (by omega)) (ad_cons (ed_rev (ex_v 3)) (ad_cons (ed_cat (ex_v 3) (ed_slTo (ex_v 3) ex_int) (by omega)) (ad_cons (ed_list T.b (ex_v 3) (.tup _)) (ad_cons (ed_slTo (ex_v 3) ex_int) ad_nil)))))))) (by rw [s1]; show 4 + 7 ≤ 1000000; decide)) ?_
    refine sx_set 5 (ed_catL (ex_v 5) (ed_lst (ds := [.tup ((cutD (ps.map pc) none (some (j : Int)) ++ [.lst (natsD (pl2 ps[j]))]) ++ cutD (ps.map pc) (some ((j : Int) + 1)) none), .tup ((cutD (ps.map pc) none (some (j : Int)) ++ [.tup (natsD (pl2 ps[j])).reverse]) ++ cutD (ps.map pc) (some ((j : Int) + 1)) none)])
      (ad_cons (ed_cat (ed_cat (ed_slTo (ex_v 3) (ex_v 6)) (ed_tup (ds := [.lst (natsD (pl2 ps[j]))]) (ad_cons (ed_list T.b (ed_ixT (ex_v 3) (ex_v 6) hat) (.tup _)) ad_nil)) (by simp; omega)) (ed_slFrom (ex_v 3) (ed_add (ex_v 6) ex_int)) (by rw [List.length_append]; simp; omega))
      (ad_cons (ed_cat (ed_cat (ed_slTo (ex_v 3) (ex_v 6)) (ed_tup (ds := [.tup (natsD (pl2 ps[j])).reverse]) (ad_cons (ed_rev (ed_ixT (ex_v 3) (ex_v 6) hat)) ad_nil)) (by simp; omega)) (ed_slFrom (ex_v 3) (ed_add (ex_v 6) ex_int)) (by rw [List.length_append]; simp; omega)) ad_nil))) (by rw [List.length_append, s1]; show 4 + 7 + 2 ≤ 1000000; decide)) ?_
    refine sx_nil ⟨_, _, _, by rw [List.length_append, List.length_append]; simp, by rw [List.length_append, List.length_append]; simp, fun d hd => ?_, rfl⟩
    have n2 : Nice (.lst (natsD (pl2 ps[j]))) := .lst fun d hd => by
      obtain ⟨x, _, rfl⟩ := List.mem_map.mp hd
      exact .int _
    have n3 : Nice (.tup (natsD (pl2 ps[j])).reverse) := .tup (by rw [List.length_reverse, natsD_len]; unfold pl2; simp) fun d hd => by
      obtain ⟨x, _, rfl⟩ := List.mem_map.mp (List.mem_reverse.mp hd)
      exact .int _
    have mid : ∀ y : Dt, Nice y → Nice (.tup ((cutD (ps.map pc) none (some (j : Int)) ++ [y]) ++ cutD (ps.map pc) (some ((j : Int) + 1)) none)) := fun y hy => .tup (by rw [List.length_append, List.length_append]; simp; omega) fun d hd => by
      rcases List.mem_append.mp hd with z | z
      · rcases List.mem_append.mp z with z | z
        · exact npc d (c1m d z)
        · rw [List.mem_singleton.mp z]; exact hy
      · exact npc d (c2m d z)
    rcases List.mem_append.mp hd with z | z
    · rcases List.mem_append.mp z with z | z
      · exact s3 d z
      · simp only [List.mem_cons, List.mem_singleton, List.not_mem_nil, or_false] at z
        rcases z with rfl | rfl | rfl | rfl | rfl | rfl | rfl
        · exact hg
        · exact hg
        · exact .tup (by rw [List.length_append]; omega) fun d hd => by
            rcases List.mem_append.mp hd with z | z
            · exact npc d (c1m d z)
            · exact npc d (c2m d z)
        · exact .tup (by rw [List.length_reverse]; omega) fun d hd => npc d (List.mem_reverse.mp hd)
        · exact .tup (by rw [List.length_append]; omega) fun d hd => by
            rcases List.mem_append.mp hd with z | z
            · exact npc d z
            · exact npc d (c3m d z)
        · exact .lst npc
        · exact .tup (by omega) fun d hd => npc d (c3m d hd)
    · simp only [List.mem_cons, List.mem_singleton, List.not_mem_nil, or_false] at z
      rcases z with rfl | rfl
      · exact mid _ n2
      · exact mid _ n3
  · rintro G' ⟨sm, x6, x7, q1, q2, q3, rfl⟩
    exact ⟨sm, _, _, ⟨by omega, q2, q3⟩, rfl⟩
  rintro G' ⟨sm, x6, x7, hsm, rfl⟩
  refine sx_set 8 (k := .dat (.lst [.non, .int 0, .bl true, .str "book", .dic, .tup [nt [0, 1, 2]], .tup [pc (0, n)], .tup [.tup [.bl false, .bl true]], .tup [.tup [.int 0, .str "1"]], pc (0, 1), .tup [pc (1, 1)]]))
    (ed_lst (ds := [.non, .int 0, .bl true, .str "book", .dic, .tup [nt [0, 1, 2]], .tup [pc (0, n)], .tup [.tup [.bl false, .bl true]], .tup [.tup [.int 0, .str "1"]], pc (0, 1), .tup [pc (1, 1)]]) (ad_cons ex_non (ad_cons ex_int (ad_cons ex_bl (ad_cons ex_str (ad_cons ed_disp0
      (ad_cons (ed_tup (ds := [nt [0, 1, 2]]) (ad_cons (ed_tup (ds := natsD [0, 1, 2]) (ad_cons ex_int (ad_cons ex_int (ad_cons ex_int ad_nil)))) ad_nil))
      (ad_cons (ed_tup (ds := [pc (0, n)]) (ad_cons (ed_tup (ds := natsD [0, n]) (ad_cons ex_int (ad_cons (ex_v 1) ad_nil))) ad_nil))
      (ad_cons (ed_tup (ds := [.tup [.bl false, .bl true]]) (ad_cons (ed_tup (ds := [.bl false, .bl true]) (ad_cons ex_bl (ad_cons ex_bl ad_nil))) ad_nil))
      (ad_cons (ed_tup (ds := [.tup [.int 0, .str "1"]]) (ad_cons (ed_tup (ds := [.int 0, .str "1"]) (ad_cons ex_int (ad_cons ex_str ad_nil))) ad_nil))
      (ad_cons (ed_tup (ds := natsD [0, 1]) (ad_cons ex_int (ad_cons ex_int ad_nil)))
      (ad_cons (ed_tup (ds := [pc (1, 1)]) (ad_cons (ed_tup (ds := natsD [1, 1]) (ad_cons ex_int (ad_cons ex_int ad_nil))) ad_nil)) ad_nil)))))))))))) ?_
  have hodd : ∀ d ∈ [Dt.non, .int 0, .bl true, .str "book", .dic, .tup [nt [0, 1, 2]], .tup [pc (0, n)], .tup [.tup [.bl false, .bl true]], .tup [.tup [.int 0, .str "1"]], pc (0, 1), .tup [pc (1, 1)]], Nice d := fun d hd => by
    simp only [List.mem_cons, List.mem_singleton, List.not_mem_nil, or_false] at hd
    have one : ∀ {x : Dt}, Nice x → Nice (.tup [x]) := fun {x} hx => .tup (by simp) fun d hd => by rw [List.mem_singleton.mp hd]; exact hx
    rcases hd with rfl | rfl | rfl | rfl | rfl | rfl | rfl | rfl | rfl | rfl | rfl
    · exact .non
    · exact .int _
    · exact .bl _
    · exact .str _
    · exact .dic
    · exact one (Nice.nt _ (by simp))
    · exact one (nice_pc _)
    · refine one (.tup (by simp) fun d hd => ?_)
      simp only [List.mem_cons, List.mem_singleton, List.not_mem_nil, or_false] at hd
      rcases hd with rfl | rfl <;> exact .bl _
    · refine one (.tup (by simp) fun d hd => ?_)
      simp only [List.mem_cons, List.mem_singleton, List.not_mem_nil, or_false] at hd
      rcases hd with rfl | rfl
      · exact .int _
      · exact .str _
    · exact nice_pc _
    · exact one (nice_pc _)
  refine sx_one (s1_ret (EX.weaken (ex_lstS (S := fun ds => ∃ d1 d2 d3, Nice d1 ∧ Nice d2 ∧ Nice d3 ∧ ds = [d1, d2, d3]) (ax_cons (ex_anyN c2 (ex_hand 0) ((ex_v 5).weaken fun k hk => ⟨sm, hsm, hk⟩)) (ax_cons (ex_anyN c2 (ex_hand 0) ((ex_v 5).weaken fun k hk => ⟨sm, hsm, hk⟩)) (ax_cons (ex_anyN c2 (ex_hand 0) (EX.weaken (ex_catL (S := fun l => l = [Dt.non, .int 0, .bl true, .str "book", .dic, .tup [nt [0, 1, 2]], .tup [pc (0, n)], .tup [.tup [.bl false, .bl true]], .tup [.tup [.int 0, .str "1"]], pc (0, 1), .tup [pc (1, 1)]]) (S' := fun l => ∃ d, Nice d ∧ l = [d]) ((ex_v 8).weaken fun k hk => ⟨_, rfl, hk⟩)
    (ex_lstS (S := fun l => ∃ d, Nice d ∧ l = [d]) (ax_cons (ex_call (R := nice) cn (ad_k (ex_hand 0) ad_nil) (fun ks q => ⟨q, rfl⟩)) ax_nil) (fun ks hk => ?_)) (fun l m hl hm => ?_)) fun k hk => ?_)) ax_nil))) (fun ks hk => ?_)) fun k hk => ?_))
  · obtain ⟨k1, r1, rfl, ⟨d, hd, rfl⟩, rfl⟩ := hk
    exact ⟨[d], ⟨d, hd, rfl⟩, by simp, rfl⟩
  · obtain ⟨d, _, rfl⟩ := hm
    rw [hl]
    simp
  · obtain ⟨l, m, rfl, ⟨d, hd, rfl⟩, rfl⟩ := hk
    refine ⟨_, ⟨by simp, by simp, fun x hx => ?_⟩, rfl⟩
    rcases List.mem_append.mp hx with z | z
    · exact hodd x z
    · rw [List.mem_singleton.mp z]; exact hd
  · obtain ⟨k1, r1, rfl, ⟨d1, n1, rfl⟩, k2, r2, rfl, ⟨d2, n2, rfl⟩, k3, r3, rfl, ⟨d3, n3, rfl⟩, rfl⟩ := hk
    exact ⟨[d1, d2, d3], ⟨d1, d2, d3, n1, n2, n3, rfl⟩, by simp, rfl⟩
  · obtain ⟨ds, ⟨d1, d2, d3, n1, n2, n3, rfl⟩, rfl⟩ := hk
    exact ⟨d1, d2, d3, n1, n2, n3, rfl⟩
end
end A8
set_option Elab.async false
set_option linter.all false
set_option maxRecDepth 100000
set_option maxHeartbeats 1000000
namespace A8
open PySem PySem.Spec PyProof.Rows L2
variable {E : En} (T : Tx E) {f : Fm} {G : List Ki} {e a b c : Expr} {es : List Expr} {pos p : Pos}
def bookD (n : Nat) (ms : List Mv) : Dt := .tup ((lapart n ms).map pc)
/-- what the mathematics must say of a system -/
structure Mth (n : Nat) (ms : List Mv) : Prop where
  apart : ((gfp n ms).map pc).mergeSort dle = (lapart n ms).map pc
  iff : mrg n ms = none ↔ lapart n ms ≠ []
  book : mrg n ms = none → isBook n ms (bookD n ms) = true ∧ shr ms 4 (L0 n) = none
  row : ∀ r, mrg n ms = some r → r.length ≤ 400 ∧ (∀ x ∈ r, x < ms.length) ∧ (lot (allB ms n r)).length = 1 ∧ (r.length < 5 → shr ms 5 (L0 n) = some r)
def R_Lis_book (ks : List Ki) (P : Ki → Prop) : Prop := ∃ (n : Nat) (ms : List Mv) (d : Dt), Aut n ms ∧ Nice d ∧ ks = [.dat (.int n), .dat (moveD ms), .dat d] ∧ P = A8.one (.bl (isBook n ms d))
def R_one_right (ks : List Ki) (P : Ki → Prop) : Prop := ∃ (n : Nat) (ms : List Mv), Sy n ms ∧ ms.length ≤ 4 ∧ Mth n ms ∧ ks = [.hand, .dat (.int n), .dat (moveD ms)] ∧ P = A8.one (.bl true)
theorem R_is_book_nice {n : Nat} {ms : List Mv} {d : Dt} (A : Aut n ms) (h : Nice d) : R_is_book [.dat (sysD n ms), .dat d] (A8.one (.bl (isBook n ms d))) :=
  ⟨n, ms, d, A, h.cls, fun l hl => by
    subst hl
    obtain ⟨h1, h2⟩ := h.items
    refine ⟨by omega, fun x hx => ⟨(h2 x hx).cls, fun m hm y hy => ?_, (h2 x hx).tuq⟩⟩
    have h3 := h2 x hx
    subst hm
    exact (h3.items.2 y hy).cls, h.tuq, rfl, rfl⟩
theorem lapart_lt {n : Nat} {ms : List Mv} : ∀ p ∈ lapart n ms, p.1 < p.2 ∧ p.2 < n := fun p hp => couplesL_lt p (List.mem_filter.mp hp).1
theorem lapart_len {n : Nat} {ms : List Mv} (h : n ≤ 12) : (lapart n ms).length ≤ 144 := Nat.le_trans (List.length_filter_le _ _) (couplesL_len h)
theorem bookD_nice {n : Nat} {ms : List Mv} (h : n ≤ 12) : Nice (bookD n ms) := by
  have := lapart_len (ms := ms) h
  exact nice_pcs (fun d hd => by obtain ⟨p, _, rfl⟩ := List.mem_map.mp hd; exact ⟨p, rfl⟩) (by rw [List.length_map]; omega)
theorem allB_lt {n : Nat} {ms : List Mv} (A : Aut n ms) {r : List Nat} (h : ∀ x ∈ r, x < ms.length) : (∀ x ∈ allB ms n r, x < n) ∧ (allB ms n r).length = n :=
  allB_ok A r (List.range n) h (fun x hx => List.mem_range.mp hx) List.length_range
section
include T
theorem ok_one_right {fa f0 : Addr} {fd fd0 : FuncData} (M : Mk E.K E.C f0) (F0 : FnOk E.P E.w E.K E.mg E.base CX0 5 f0 fd0 ["self", "many", "moves"] (spI E.K E.C)) (hb0 : L2.Binds E.K fd0 ["self", "many", "moves"] [])
    (cm : Cl E 2 "_law_merging" R_Lmerging) (ca : Cl E 2 "_law_apart" R_Lapart) (cmr : Cl E 3 "merging_row" R_merging_row) (ci1 : Cl E 2 "_law_is" (R_is 1)) (ci2 : Cl E 3 "_law_is" (R_is 2)) (cap : Cl E 5 "apart" R_apart) (cb : Cl E 4 "is_book" R_is_book) (cs : Cl E 1 "_law_shortest" R_shortest) (cla : Cl E 5 "led_all" R_all_behind) (cbk : Cl E 4 "_law_books" R_books) (clb : Cl E 2 "_law_is_book" R_Lis_book)
    (F : Fun E.K "_law_one_right" "_law_one_right" s_L_one_right fa fd) : FnOk E.P E.w E.K E.mg E.base CX0 7 fa fd ["_law_hand_here", "_law_many", "_law_moves_here"] (spG E.K E.C R_one_right) := by
  refine fn_ok F c_L_one_right (fun ks P ⟨_, _, _, _, _, e, _⟩ => by rw [e]; rfl) (fun ks P ⟨n, ms, _, _, _, e, _⟩ => noOwn_hand [.int n, moveD ms] e) fun hd ks P h => ?_
  obtain ⟨n, ms, S, h4, X, rfl, rfl⟩ := h
  have A := S.aut
  have h12 := A.n12
  have hap := X.apart
  have hll := lapart_len (ms := ms) h12
  have hlen : ((lapart n ms).map pc).length = (lapart n ms).length := List.length_map ..
  refine sx_cons (s1_par3 (Ra := A8.one (sysD n ms)) (Rb := A8.one (optD (mrg n ms))) (Rc := A8.one (bookD n ms)) 3 4 5 (ed_make T.mgC M F0 hb0 S (ad_cons (ex_v 1) (ad_cons (ex_v 2) ad_nil))) (ed_call cm (ad_cons (ex_v 1) (ad_cons (ex_v 2) ad_nil)) ⟨n, ms, A, rfl, rfl⟩) (ed_call ca (ad_cons (ex_v 1) (ad_cons (ex_v 2) ad_nil)) ⟨n, ms, A, rfl, rfl⟩)
    (fun k h => by rw [h]; trivial) (fun k h => by rw [h]; trivial) (fun k h => by rw [h]; trivial)) ?_
  rintro G' ⟨k, k', k'', rfl, rfl, rfl, rfl⟩
  refine sx_set 6 (ed_call cmr (ad_cons (ex_v 3) ad_nil) ⟨n, ms, A, rfl, rfl⟩) ?_
  have is2 : R_is 2 [.dat (bookD n ms), .dat (bookD n ms)] (A8.one (.bl true)) := ⟨_, ⟨(lapart n ms).map pl2, by rw [List.length_map]; omega, fun x hx => by obtain ⟨p, _, rfl⟩ := List.mem_map.mp hx; unfold pl2; simp, by unfold bookD; rw [map_pc]⟩, rfl, rfl⟩
  have loop : ∀ (z : Dt) (o : Dt), SX E ⟨n_L_one_right, defScope s_L_one_right, fun _ => true, 6, hd⟩ ((defBody s_L_one_right).drop 7) [.hand, .dat (.int n), .dat (moveD ms), .dat (sysD n ms), .dat z, .dat (bookD n ms), .dat o, .un, .un] (fun _ => A8.one (.bl true) (.dat .non)) (fun k _ => A8.one (.bl true) k) := fun z o => by
    refine sx_cons (s1_forS (.one 7) (fun l => ∃ d1 d2 d3, Nice d1 ∧ Nice d2 ∧ Nice d3 ∧ l = [d1, d2, d3]) (fun l i G' => ∃ x7 x8 : Ki, G' = [.hand, .dat (.int n), .dat (moveD ms), .dat (sysD n ms), .dat z, .dat (bookD n ms), .dat o, x7, x8])
      (ix_lstS (EX.weaken (ex_call (R := fun k => ∃ d1 d2 d3, Nice d1 ∧ Nice d2 ∧ Nice d3 ∧ k = .dat (.lst [d1, d2, d3])) cbk (ad_k (ex_hand 0) (ad_cons (ex_v 1) (ad_cons (ex_v 2) (ad_cons (ex_v 5) ad_nil)))) (fun ks q => ⟨n, ms, lapart n ms, A, lapart_lt, hll, q, rfl⟩)) fun k ⟨d1, d2, d3, a1, a2, a3, e⟩ => ⟨_, ⟨d1, d2, d3, a1, a2, a3, rfl⟩, e⟩)) (gx_one 7) (fun l _ => ⟨_, _, rfl⟩) ?_) ?_
    · rintro l ⟨d1, d2, d3, a1, a2, a3, rfl⟩ i x hx G' ⟨x7, x8, rfl⟩
      have hn : Nice x := by
        have := List.mem_of_getElem? hx
        simp only [List.mem_cons, List.mem_singleton, List.not_mem_nil, or_false] at this
        rcases this with rfl | rfl | rfl <;> assumption
      refine sx_set 8 (ed_call cb (ad_cons (ex_v 3) (ad_cons (ex_v 7) ad_nil)) (R_is_book_nice A hn)) ?_
      refine sx_one (s1_if (TD.is (WX.tx (wd_or (td_not (td_val (ed_isaBool T.b (ex_v 8) cbl))) fun _ => wd_or1 (td_neB (ex_v 8) (ed_call clb (ad_cons (ex_v 1) (ad_cons (ex_v 2) (ad_cons (ex_v 7) ad_nil))) ⟨n, ms, x, A, hn, rfl, rfl⟩)))) (b' := false) (by simp [Dt.isa, isaC, Dt.cls])) (fun h => by cases h) (fun _ => sx_nil ⟨_, _, rfl⟩))
    · rintro G' ⟨l, _, x7, x8, rfl⟩
      exact sx_one (s1_ret ex_bl)
  have books := R_is_book_nice A (bookD_nice (ms := ms) h12)
  cases hz : mrg n ms with
  | none =>
    have hne := X.iff.mp hz
    obtain ⟨hbk, hsh⟩ := X.book hz
    have hpos : decide ((0 : Int) < (((lapart n ms).map pc).length : Int)) = true := by
      rw [hlen]
      have : 0 < (lapart n ms).length := List.length_pos_iff.mpr hne
      exact decide_eq_true (by omega)
    rw [hbk] at books
    let GG : List Ki := [.hand, .dat (.int n), .dat (moveD ms), .dat (sysD n ms), .dat .non, .dat (bookD n ms), .dat .non, .un, .un]
    refine sx_cons (N1 := fun G' => G' = GG) (s1_if (TD.is (WX.tx (wd_or (td_neB (ed_isN (d := .non) (ex_v 6)) (ed_isN (d := .non) (ex_v 4))) fun _ => wd_or1 (WX.tx (wd_and (y := false) (td_notN (d := .non) (ex_v 6)) fun h => by cases h)))) (b' := false) rfl) (fun h => by cases h) (fun _ => sx_nil rfl)) ?_
    rintro G' rfl
    refine sx_cons (N1 := fun G' => G' = GG) (s1_if (TD.is (WX.tx (wd_or (td_not (td_val (ed_call ci2 (ad_cons (ED.is (ed_call cap (ad_cons (ex_v 3) ad_nil) ⟨n, ms, A, rfl, rfl⟩) (by rw [hap]; rfl)) (ad_cons (ex_v 5) ad_nil)) is2))) fun _ => wd_or1 (td_neB (ed_isN (d := .non) (ex_v 4)) (ed_gt (ed_len T.b (ex_v 5) (.tup ((lapart n ms).map pc))) ex_int)))) (b' := false) (by rw [hpos]; rfl)) (fun h => by cases h) (fun _ => sx_nil rfl)) ?_
    rintro G' rfl
    refine sx_cons (N1 := fun G' => G' = GG) (s1_if (TD.is (WX.tx (wd_and (td_isN (d := .non) (ex_v 4)) fun _ => wd_and1 (WX.tx (wd_or (td_isnotB (ed_call cb (ad_cons (ex_v 3) (ad_cons (ex_v 5) ad_nil)) books) ex_bl) fun _ => wd_or1 (td_notN (d := optD (shr ms 4 (L0 n))) (ed_call cs (ad_cons (ex_v 1) (ad_cons (ex_v 2) (ad_cons (ex_int (i := ((3 : Nat) : Int))) ad_nil))) ⟨n, ms, 3, A, h4, by decide, rfl, rfl⟩)))))) (b' := false) (by rw [hsh]; rfl)) (fun h => by cases h) (fun _ => sx_nil rfl)) ?_
    rintro G' rfl
    refine sx_cons (N1 := fun G' => G' = GG) (s1_if (TD.is (WX.tx (wd_and (y := false) (td_notN (d := .non) (ex_v 4)) fun h => by cases h)) (b' := false) rfl) (fun h => by cases h) (fun _ => sx_nil rfl)) ?_
    rintro G' rfl
    refine sx_cons (N1 := fun G' => G' = GG) (s1_if (TD.is (WX.tx (wd_and (y := false) (td_notN (d := .non) (ex_v 4)) fun h => by cases h)) (b' := false) rfl) (fun h => by cases h) (fun _ => sx_nil rfl)) ?_
    rintro G' rfl
    exact loop .non .non
  | some r =>
    have hnil : lapart n ms = [] := by
      by_cases q : lapart n ms = []
      · exact q
      · rw [X.iff.mpr q] at hz; cases hz
    obtain ⟨r1, r2, r3, r4⟩ := X.row r hz
    obtain ⟨b1, b2⟩ := allB_lt A r2
    have hbk : isBook n ms (bookD n ms) = false := by unfold bookD; rw [hnil]; rfl
    rw [hbk] at books
    have hpos : decide ((0 : Int) < (((lapart n ms).map pc).length : Int)) = false := by rw [hnil]; rfl
    let GG : List Ki := [.hand, .dat (.int n), .dat (moveD ms), .dat (sysD n ms), .dat (nt r), .dat (bookD n ms), .dat (nt r), .un, .un]
    have is1 : R_is 1 [.dat (nt r), .dat (nt r)] (A8.one (.bl true)) := ⟨_, ⟨r, by omega, rfl⟩, rfl, rfl⟩
    refine sx_cons (N1 := fun G' => G' = GG) (s1_if (TD.is (WX.tx (wd_or (td_neB (ed_isN (d := nt r) (ex_v 6)) (ed_isN (d := nt r) (ex_v 4))) fun _ => wd_or1 (WX.tx (wd_and (td_notN (d := nt r) (ex_v 6)) fun _ => wd_and1 (td_not (td_val (ed_call ci1 (ad_cons (ex_v 6) (ad_cons (ex_v 4) ad_nil)) is1))))))) (b' := false) rfl) (fun h => by cases h) (fun _ => sx_nil rfl)) ?_
    rintro G' rfl
    refine sx_cons (N1 := fun G' => G' = GG) (s1_if (TD.is (WX.tx (wd_or (td_not (td_val (ed_call ci2 (ad_cons (ED.is (ed_call cap (ad_cons (ex_v 3) ad_nil) ⟨n, ms, A, rfl, rfl⟩) (by rw [hap]; rfl)) (ad_cons (ex_v 5) ad_nil)) is2))) fun _ => wd_or1 (td_neB (ed_isN (d := nt r) (ex_v 4)) (ed_gt (ed_len T.b (ex_v 5) (.tup ((lapart n ms).map pc))) ex_int)))) (b' := false) (by rw [hpos]; rfl)) (fun h => by cases h) (fun _ => sx_nil rfl)) ?_
    rintro G' rfl
    refine sx_cons (N1 := fun G' => G' = GG) (s1_if (TD.is (WX.tx (wd_and (y := false) (td_isN (d := nt r) (ex_v 4)) fun h => by cases h)) (b' := false) rfl) (fun h => by cases h) (fun _ => sx_nil rfl)) ?_
    rintro G' rfl
    refine sx_cons (N1 := fun G' => G' = GG) (s1_if (TD.is (WX.tx (wd_and (td_notN (d := nt r) (ex_v 4)) fun _ => wd_and (y := false) (td_lt (ed_len T.b (ex_v 4) (.tup (natsD r))) ex_int) fun h => ?_)) (b' := false) (by rw [Bool.and_false, Bool.and_false])) (fun h => by cases h) (fun _ => sx_nil rfl)) ?_
    · have hl := of_decide_eq_true h
      rw [natsD_len] at hl
      have h5 := r4 (by omega)
      refine wd_and1 (TD.is (td_neD (d := nt r) (d' := nt r) (ED.is (ed_call cs (ad_cons (ex_v 1) (ad_cons (ex_v 2) (ad_cons (ex_int (i := ((4 : Nat) : Int))) ad_nil))) ⟨n, ms, 4, A, h4, by decide, rfl, rfl⟩) (by rw [h5]; rfl)) (ex_v 4) (pl_nt _) (pl_nt _) (shaped_nt _) (shaped_nt _)) ?_)
      rw [eqv_nt, decide_eq_true rfl]
      rfl
    rintro G' rfl
    refine sx_cons (N1 := fun G' => G' = GG) (s1_if (TD.is (WX.tx (wd_and (td_notN (d := nt r) (ex_v 4)) fun _ => wd_and1 (WX.tx (wd_or (td_ne (ed_lenSet T.b (ns := allB ms n r) (ed_call cla (ad_cons (ex_v 3) (ad_cons (ex_v 4) ad_nil)) ⟨n, ms, r, A, r1, r2, rfl, rfl⟩) (fun x hx => by have := b1 x hx; omega) (by omega)) ex_int) fun _ => wd_or1 (td_isnotB (ed_call cb (ad_cons (ex_v 3) (ad_cons (ex_v 5) ad_nil)) books) ex_bl))))) (b' := false) (by rw [r3]; rfl)) (fun h => by cases h) (fun _ => sx_nil rfl)) ?_
    rintro G' rfl
    exact loop (nt r) (nt r)
end
end A8
set_option Elab.async false
set_option linter.all false
set_option maxRecDepth 100000
set_option maxHeartbeats 1000000
namespace A8
open PySem PySem.Spec PyProof.Rows L2
variable {E : En} (T : Tx E) {f : Fm} {G : List Ki} {e a b c : Expr} {es : List Expr} {pos p : Pos}
def moved (n : Nat) : Ki → Prop := fun k => ∃ ms : List Mv, Sy n ms ∧ ms.length ≤ 4 ∧ k = .dat (moveD ms)
def R_Lmoves (ks : List Ki) (P : Ki → Prop) : Prop := ∃ (n most : Nat), 1 ≤ n ∧ n ≤ 12 ∧ 1 ≤ most ∧ most ≤ 4 ∧ ks = [.hand, .dat (.int n), .dat (.int most)] ∧ P = moved n
theorem sy_turned {ms : List Mv} (h : ms.length = 2) (hm : ∀ m ∈ ms, IsLd 12 m.ld ∧ (m.t, m.b) = frl 1 2) : Sy 12 ms := by
  have e : frl 1 2 = (1, 2) := by decide
  match ms, h with
  | [x, y], _ =>
    have hx := hm x (by simp)
    have hy := hm y (by simp)
    rw [e] at hx hy
    have x1 : x.t = 1 ∧ x.b = 2 := Prod.mk.inj hx.2
    have y1 : y.t = 1 ∧ y.b = 2 := Prod.mk.inj hy.2
    have me : ([x, y] : List Mv).map (fun m => (m.t, m.b)) = [(1, 2), (1, 2)] := by simp [x1, y1]
    refine ⟨⟨by decide, by decide, by simp, by simp, fun m hm' => (hm m hm').1⟩, fun m hm' => ?_, ?_, ?_⟩
    · have h1 := (hm m hm').1
      have h2 := (hm m hm').2
      rw [e] at h2
      obtain ⟨t1, b1⟩ := Prod.mk.inj h2
      unfold Mv.good
      rw [t1, b1]
      exact ⟨by decide, by decide, by decide, h1.1, h1.2⟩
    · rw [me]
      refine ⟨by decide, by decide, by decide, ?_⟩
      have : fadd (0, 1) (1, 2) = (1, 2) := by decide
      rw [this]
      exact ⟨by decide, by decide, by decide, trivial⟩
    · rw [me]
      decide
/-- a or b: True whichever way -/
theorem ed_orT {rest : List Expr} {R1 : Bool → Prop} (h : EX E f a G (bis R1)) (h2 : ED E f (.BoolOp .Or (b :: rest) pos) G (.bl true)) : ED E f (.BoolOp .Or (a :: b :: rest) pos) G (.bl true) := fun X hX => by
  refine ⟨fun pins s σ H Q I hq => ?_⟩
  obtain ⟨F, w, t, k⟩ := hq
  refine BoolOp_or (thn ((h X hX).run pins s σ H (fun v H' => ∃ (c : Bool) (F' : Hp), v = .bl c ∧ Stp f.hd F H F' H') I ⟨F, w, t, ?_⟩) ?_)
  · rintro k0 v F1 H1 ⟨c, _, rfl⟩ s kv -
    exact ⟨c, F1, ko_bl kv, s⟩
  · rintro v s1 ⟨x, H1, I1, r1, c, F1, rfl, st⟩
    cases r1
    cases c with
    | true => exact wpAny_truthy_bool ⟨.bl true, H1, I1, rfl, k (.dat (.bl true)) _ F1 H1 rfl st (Rp.bl true) Fr.dat⟩
    | false => exact wpAny_truthy_bool ((h2 X hX).run pins s1 σ H1 Q I1 ⟨F1, st.wd, t.mono st, fun k1 v F' H' r s2 kk fr => k k1 v F' H' r (st.trans s2) kk (fr.back st)⟩)
theorem ex_gtI {P P' : Int → Prop} (ha : EI E f a G P) (hb : EI E f b G P') : EX E f (.Compare a [.Gt] [b] pos) G (bis fun _ => True) :=
  ex_cmp (r := fun _ => rI0 fun i j => .bl (decide (j < i))) (R := bis fun _ => True) (fun X _ => op_gt) ha hb (fun ka kb ⟨i, _, e1⟩ ⟨j, _, e2⟩ => by rw [e1, e2]; exact rv_cmp trivial) (nomark _)
section
include T
theorem law_rest (hd : Hd) (HM : ∀ n ms, Sy n ms → ms.length ≤ 4 → Mth n ms) (c1 : Cl E 1 "_law_draw" R_draw) (co : Cl E 7 "_law_one_right" R_one_right) (cm : Cl E 4 "_law_moves" R_Lmoves) (ct : Cl E 3 "_law_turned" R_turned) :
    SX E ⟨n_law, defScope s_law, fun _ => true, 8, hd⟩ ((defBody s_law).drop 1) [.un, .hand, .un, .un] (fun _ => A8.one (.bl true) (.dat .non)) (fun k _ => A8.one (.bl true) k) := by
  refine sx_cons (s1_for (.one 2) (List.range 4) (fun m : Nat => .int (m : Int)) (fun i G' => ∃ x2 x3 : Ki, G' = [.un, .hand, x2, x3]) (ixl_range T.b (n := 4) ex_int (by decide)) (gx_one 2) ⟨_, _, rfl⟩ ?_) ?_
  · rintro i s hi G' ⟨x2, x3, rfl⟩
    refine sx_cons (s1_set 3 (ei_add (ED.ii ex_int) (ei_draw c1 (m := 5) (ex_hand 1) ex_int (by decide) (by decide))) (fun k hk => by obtain ⟨_, _, rfl⟩ := hk; trivial)) ?_
    rintro G' ⟨k, ⟨m, ⟨i1, j1, rfl, ⟨h0, h1⟩, rfl⟩, rfl⟩, rfl⟩
    obtain ⟨j, rfl⟩ := Int.eq_ofNat_of_zero_le h0
    have e1 : (1 : Int) + (j : Int) = ((1 + j : Nat) : Int) := by omega
    rw [e1]
    refine sx_one (s1_if (td_not (td_val (ex_callW (R := A8.one (.bl true)) co (ax_cons (ex_hand 1) (ax_cons (ex_v 3) (ax_cons (ex_call (R := moved (1 + j)) cm (ad_k (ex_hand 1) (ad_cons (ex_v 3) (ad_cons (ex_int (i := ((4 : Nat) : Int))) ad_nil))) (fun ks q => ⟨1 + j, 4, by omega, by omega, by decide, by decide, q, rfl⟩)) ax_nil))) (fun ks hk => ?_)))) (fun h => by cases h) (fun _ => sx_nil ⟨_, _, rfl⟩))
    obtain ⟨k1, r1, rfl, rfl, k2, r2, rfl, rfl, k3, r3, rfl, ⟨ms, S, h4, rfl⟩, rfl⟩ := hk
    exact ⟨_, ⟨1 + j, ms, S, h4, HM _ _ S h4, rfl, rfl⟩, fun k hk => hk⟩
  rintro G' ⟨x2, x3, rfl⟩
  refine sx_cons (s1_set 3 (ei_add (ED.ii ex_int) (ei_draw c1 (m := 7) (ex_hand 1) ex_int (by decide) (by decide))) (fun k hk => by obtain ⟨_, _, rfl⟩ := hk; trivial)) ?_
  rintro G' ⟨k, ⟨m, ⟨i1, j1, rfl, ⟨h0, h1⟩, rfl⟩, rfl⟩, rfl⟩
  obtain ⟨j, rfl⟩ := Int.eq_ofNat_of_zero_le h0
  have e1 : (6 : Int) + (j : Int) = ((6 + j : Nat) : Int) := by omega
  rw [e1]
  refine sx_cons (N1 := fun G' => G' = [.un, .hand, x2, .dat (.int ((6 + j : Nat) : Int))]) (s1_if (Rb := fun b => b = false) (WX.tx (wx_and (R1 := fun _ => True) (R2 := fun b => b = false) (TX.weaken (ti_eq (ei_draw c1 (m := 6) (ex_hand 1) ex_int (by decide) (by decide)) (ED.ii ex_int)) fun _ _ => trivial) (fun _ => wd_and1 (td_not (td_val (ex_callW (R := A8.one (.bl true)) co (ax_cons (ex_hand 1) (ax_cons (ex_v 3) (ax_cons (ex_call (R := moved (6 + j)) cm (ad_k (ex_hand 1) (ad_cons (ex_v 3) (ad_cons (ex_int (i := ((3 : Nat) : Int))) ad_nil))) (fun ks q => ⟨6 + j, 3, by omega, by omega, by decide, by decide, q, rfl⟩)) ax_nil))) (fun ks hk => ?_))))) (fun _ => rfl) (fun _ c hc => hc))) (fun h => by cases h) (fun _ => sx_nil rfl)) ?_
  · obtain ⟨k1, r1, rfl, rfl, k2, r2, rfl, rfl, k3, r3, rfl, ⟨ms, S, h4, rfl⟩, rfl⟩ := hk
    exact ⟨_, ⟨6 + j, ms, S, h4, HM _ _ S h4, rfl, rfl⟩, fun k hk => hk⟩
  rintro G' rfl
  refine sx_one (s1_ret (ed_orT (ex_gtI (ei_draw c1 (m := 20) (ex_hand 1) ex_int (by decide) (by decide)) (ED.ii ex_int)) (ed_one (ex_callW co (ax_cons (ex_hand 1) (ax_cons (ex_int (i := ((12 : Nat) : Int))) (ax_cons (ex_call (R := fun k => ∃ ms : List Mv, k = .dat (moveD ms) ∧ ms.length = 2 ∧ ∀ m ∈ ms, IsLd 12 m.ld ∧ (m.t, m.b) = frl 1 2) ct (ad_k (ex_hand 1) (ad_cons (ex_int (i := ((12 : Nat) : Int))) ad_nil)) (fun ks q => ⟨q, rfl⟩)) ax_nil))) (fun ks hk => ?_)))))
  obtain ⟨k1, r1, rfl, rfl, k2, r2, rfl, rfl, k3, r3, rfl, ⟨ms, rfl, h2, hm⟩, rfl⟩ := hk
  have S := sy_turned h2 hm
  exact ⟨_, ⟨12, ms, S, by omega, HM _ _ S (by omega), rfl, rfl⟩, fun k hk => hk⟩
end
end A8
set_option Elab.async false
set_option linter.all false
set_option maxRecDepth 100000
set_option maxHeartbeats 1000000
/-! what rows do, couples that merge -/
namespace A8
open PySem PySem.Spec PyProof.Rows L2
def run (ms : List Mv) (r : List Nat) (x : Nat) : Nat := r.foldl (fun x m => go (ldAt ms m) x) x
def img (ms : List Mv) (r l : List Nat) : List Nat := r.foldl (fun l m => led (ldAt ms m) l) l
def Vd (ms : List Mv) (r : List Nat) : Prop := ∀ m ∈ r, m < ms.length
def IsLot (n : Nat) (l : List Nat) : Prop := l = lot l ∧ ∀ x ∈ l, x < n
variable {n : Nat} {ms : List Mv}
theorem Vd.app {r s : List Nat} (h : Vd ms r) (g : Vd ms s) : Vd ms (r ++ s) := fun m hm => (List.mem_append.mp hm).elim (h m) (g m)
theorem Vd.left {r s : List Nat} (h : Vd ms (r ++ s)) : Vd ms r := fun m hm => h m (List.mem_append_left _ hm)
theorem Vd.right {r s : List Nat} (h : Vd ms (r ++ s)) : Vd ms s := fun m hm => h m (List.mem_append_right _ hm)
theorem Vd.tl {m : Nat} {r : List Nat} (h : Vd ms (m :: r)) : m < ms.length ∧ Vd ms r := ⟨h m List.mem_cons_self, fun x hx => h x (List.mem_cons_of_mem _ hx)⟩
theorem run_app (r s : List Nat) (x : Nat) : run ms (r ++ s) x = run ms s (run ms r x) := by
  unfold run
  rw [List.foldl_append]
theorem img_app (r s l : List Nat) : img ms (r ++ s) l = img ms s (img ms r l) := by
  unfold img
  rw [List.foldl_append]
theorem run_lt (A : Aut n ms) : ∀ {r : List Nat} {x : Nat}, Vd ms r → x < n → run ms r x < n
  | [], _, _, h => h
  | m :: r, x, v, h => by
    obtain ⟨_, _, _, g1, g2⟩ := A.at v.tl.1
    exact run_lt A (x := go (ldAt ms m) x) v.tl.2 (go_lt g1 g2 h).1
theorem led_lot (A : Aut n ms) {m : Nat} (h : m < ms.length) {l : List Nat} (hl : ∀ x ∈ l, x < n) : IsLot n (led (ldAt ms m) l) := by
  obtain ⟨_, _, _, g1, g2⟩ := A.at h
  refine ⟨?_, led_lt A.n12 g1 g2 hl⟩
  unfold led
  rw [lot_lot]
  intro x hx
  obtain ⟨y, hy, rfl⟩ := List.mem_map.mp hx
  have := (go_lt g1 g2 (hl y hy)).1
  have := A.n12
  omega
theorem img_lot (A : Aut n ms) : ∀ {r l : List Nat}, Vd ms r → IsLot n l → IsLot n (img ms r l)
  | [], _, _, h => h
  | m :: r, l, v, h => img_lot A (l := led (ldAt ms m) l) v.tl.2 (led_lot A v.tl.1 h.2)
theorem mem_img (A : Aut n ms) : ∀ {r l : List Nat}, Vd ms r → (∀ x ∈ l, x < n) → ∀ y, y ∈ img ms r l ↔ ∃ x ∈ l, run ms r x = y
  | [], l, _, h, y => ⟨fun q => ⟨y, q, rfl⟩, fun ⟨x, hx, e⟩ => e ▸ hx⟩
  | m :: r, l, v, h, y => by
    obtain ⟨_, _, _, g1, g2⟩ := A.at v.tl.1
    show y ∈ img ms r (led (ldAt ms m) l) ↔ _
    rw [mem_img A v.tl.2 (led_lot A v.tl.1 h).2 y]
    constructor
    · rintro ⟨x, hx, e⟩
      obtain ⟨z, hz, e2⟩ := (mem_led A.n12 g1 g2 h).mp hx
      exact ⟨z, hz, by rw [← e, ← e2]; rfl⟩
    · rintro ⟨z, hz, e⟩
      exact ⟨_, (mem_led A.n12 g1 g2 h).mpr ⟨z, hz, rfl⟩, e⟩
theorem IsLot.asc {l : List Nat} (h : IsLot n l) : l.Pairwise (· < ·) := by
  rw [h.1]
  exact lot_asc _
theorem IsLot.nodup {l : List Nat} (h : IsLot n l) : l.Nodup := h.asc.imp fun h => Nat.ne_of_lt h
theorem isLot_range (hn : n ≤ 12) : IsLot n (List.range n) := ⟨(lot_range hn).symm, fun x hx => List.mem_range.mp hx⟩
theorem img_le (A : Aut n ms) {r l : List Nat} (v : Vd ms r) (h : IsLot n l) : (img ms r l).length ≤ l.length := by
  have := nodup_len (m := l.map (run ms r)) (img_lot A v h).nodup fun y hy => by
    obtain ⟨x, hx, e⟩ := (mem_img A v h.2 y).mp hy
    exact List.mem_map.mpr ⟨x, hx, e⟩
  rwa [List.length_map] at this
/-- two states of a lot that meet make it smaller -/
theorem img_lt (A : Aut n ms) {r l : List Nat} (v : Vd ms r) (h : IsLot n l) {x y : Nat} (hx : x ∈ l) (hy : y ∈ l) (hn : x ≠ y) (e : run ms r x = run ms r y) : (img ms r l).length < l.length := by
  have := nodup_len (m := (l.erase y).map (run ms r)) (img_lot A v h).nodup fun z hz => by
    obtain ⟨w, hw, e2⟩ := (mem_img A v h.2 z).mp hz
    by_cases q : w = y
    · exact List.mem_map.mpr ⟨x, (List.mem_erase_of_ne hn).mpr hx, by rw [e, ← q, e2]⟩
    · exact List.mem_map.mpr ⟨w, (List.mem_erase_of_ne q).mpr hw, e2⟩
  rw [List.length_map, List.length_erase_of_mem hy] at this
  have := List.length_pos_of_mem hy
  omega
/-- a row that makes a lot smaller makes two of its states meet -/
theorem img_meet (A : Aut n ms) {r l : List Nat} (v : Vd ms r) (h : IsLot n l) (hl : (img ms r l).length < l.length) : ∃ x ∈ l, ∃ y ∈ l, x ≠ y ∧ run ms r x = run ms r y := by
  apply Classical.byContradiction
  intro hc
  have inj : ∀ x ∈ l, ∀ y ∈ l, x ≠ y → run ms r x ≠ run ms r y := fun x hx y hy hxy e => hc ⟨x, hx, y, hy, hxy, e⟩
  have hd : (l.map (run ms r)).Nodup := by
    rw [List.nodup_iff_pairwise_ne, List.pairwise_map]
    have := h.nodup
    rw [List.nodup_iff_pairwise_ne] at this
    exact List.Pairwise.imp_of_mem (fun {a b} ha hb hab => inj a ha b hb hab) this
  have := nodup_len (m := img ms r l) hd fun z hz => by
    obtain ⟨x, hx, e⟩ := List.mem_map.mp hz
    exact (mem_img A v h.2 z).mpr ⟨x, hx, e⟩
  rw [List.length_map] at this
  omega
theorem img_pos (A : Aut n ms) {r l : List Nat} (v : Vd ms r) (h : ∀ x ∈ l, x < n) (hl : l ≠ []) : 1 ≤ (img ms r l).length := by
  cases l with
  | nil => exact absurd rfl hl
  | cons x l => exact List.length_pos_of_mem ((mem_img A v h _).mpr ⟨x, List.mem_cons_self, rfl⟩)
/-! couples -/
def Mg (ms : List Mv) (p : Nat × Nat) : Prop := ∃ r, Vd ms r ∧ run ms r p.1 = run ms r p.2
def srt (a b : Nat) : Nat × Nat := if a < b then (a, b) else (b, a)
theorem srt_lt {a b : Nat} (h : a ≠ b) (ha : a < n) (hb : b < n) : (srt a b).1 < (srt a b).2 ∧ (srt a b).2 < n := by
  unfold srt
  split
  · exact ⟨by assumption, hb⟩
  · exact ⟨by show b < a; omega, ha⟩
theorem mg_srt {a b : Nat} : Mg ms (srt a b) ↔ Mg ms (a, b) := by
  unfold srt
  split
  · exact Iff.rfl
  · exact ⟨fun ⟨r, v, e⟩ => ⟨r, v, e.symm⟩, fun ⟨r, v, e⟩ => ⟨r, v, e.symm⟩⟩
theorem led_two (A : Aut n ms) {m : Nat} (hm : m < ms.length) {q : Nat × Nat} (h1 : q.1 < n) (h2 : q.2 < n) (hd : go (ldAt ms m) q.1 ≠ go (ldAt ms m) q.2) : led (ldAt ms m) (pl2 q) = pl2 (srt (go (ldAt ms m) q.1) (go (ldAt ms m) q.2)) := by
  obtain ⟨_, _, _, g1, g2⟩ := A.at hm
  have hq : ∀ x ∈ pl2 q, x < n := fun x hx => by
    unfold pl2 at hx
    simp at hx
    omega
  refine asc_eq (· < ·) (fun x => Nat.lt_irrefl x) (fun x y h => by omega) (lot_asc _) ?_ fun y => ?_
  · have := (srt_lt (n := 12) hd (by have := (go_lt g1 g2 h1).1; have := A.n12; omega) (by have := (go_lt g1 g2 h2).1; have := A.n12; omega)).1
    simp [pl2, this]
  · rw [mem_led A.n12 g1 g2 hq]
    unfold pl2 srt
    split
    · simp; exact ⟨fun h => h.elim (fun h => .inl h.symm) (fun h => .inr h.symm), fun h => h.elim (fun h => .inl h.symm) (fun h => .inr h.symm)⟩
    · simp; exact ⟨fun h => h.elim (fun h => .inr h.symm) (fun h => .inl h.symm), fun h => h.elim (fun h => .inr h.symm) (fun h => .inl h.symm)⟩
theorem mg_step {p : Nat × Nat} {m : Nat} (hm : m < ms.length) (h : Mg ms (go (ldAt ms m) p.1, go (ldAt ms m) p.2)) : Mg ms p := by
  obtain ⟨r, v, e⟩ := h
  exact ⟨m :: r, fun x hx => (List.mem_cons.mp hx).elim (fun q => q ▸ hm) (v x), e⟩
/-- the falling list's end holds the couples that never merge -/
theorem gfp_mem (A : Aut n ms) (p : Nat × Nat) : p ∈ gfp n ms ↔ (p.1 < p.2 ∧ p.2 < n) ∧ ¬ Mg ms p := by
  obtain ⟨h1, h2⟩ := gfp_spec n ms
  constructor
  · intro hp
    refine ⟨couples_lt p (h1.sub.subset hp), ?_⟩
    rintro ⟨r, v, e⟩
    induction r generalizing p with
    | nil =>
      have := (couples_lt p (h1.sub.subset hp)).1
      have e' : p.1 = p.2 := e
      omega
    | cons m r ih =>
      rw [← h2] at hp
      have ho := (List.mem_filter.mp hp).2
      have := (List.all_eq_true.mp ho) m (List.mem_range.mpr v.tl.1)
      obtain ⟨q, hq, eq⟩ := List.mem_map.mp (of_decide_eq_true this)
      have hpl := couples_lt p (h1.sub.subset (List.mem_filter.mp hp).1)
      by_cases hd : go (ldAt ms m) p.1 = go (ldAt ms m) p.2
      · obtain ⟨_, _, _, g1, g2⟩ := A.at v.tl.1
        have hm : ∀ y, y ∈ pl2 q → y = go (ldAt ms m) p.1 := fun y hy => by
          rw [eq] at hy
          obtain ⟨x, hx, e3⟩ := (mem_led A.n12 g1 g2 (l := pl2 p) fun x hx => by unfold pl2 at hx; simp at hx; omega).mp hy
          unfold pl2 at hx
          simp at hx
          rcases hx with rfl | rfl
          · exact e3.symm
          · rw [← e3, hd]
        have := (couples_lt q (h1.sub.subset hq)).1
        have a1 := hm q.1 (by simp [pl2])
        have a2 := hm q.2 (by simp [pl2])
        omega
      · rw [led_two A v.tl.1 (by omega) hpl.2 hd] at eq
        have eq := pl2_inj eq
        refine ih q hq v.tl.2 ?_
        have e' : run ms r (go (ldAt ms m) p.1) = run ms r (go (ldAt ms m) p.2) := e
        rw [eq]
        unfold srt
        split
        · exact e'
        · exact e'.symm
  · rintro ⟨⟨a1, a2⟩, a3⟩
    have key : ∀ {l : List (Nat × Nat)}, Falls ms (couples n) l → ∀ p : Nat × Nat, p.1 < p.2 → p.2 < n → ¬ Mg ms p → p ∈ l := fun {l} h => by
      induction h with
      | refl =>
        intro p b1 b2 _
        exact List.mem_flatMap.mpr ⟨p.2, List.mem_range.mpr b2, List.mem_map.mpr ⟨p.1, List.mem_range.mpr b1, rfl⟩⟩
      | step _ ih =>
        intro p b1 b2 b3
        refine List.mem_filter.mpr ⟨ih p b1 b2 b3, List.all_eq_true.mpr fun m hm => ?_⟩
        have hm := List.mem_range.mp hm
        obtain ⟨_, _, _, g1, g2⟩ := A.at hm
        have hd : go (ldAt ms m) p.1 ≠ go (ldAt ms m) p.2 := fun e => b3 ⟨[m], fun x hx => (List.mem_singleton.mp hx) ▸ hm, e⟩
        obtain ⟨s1, s2⟩ := srt_lt hd (go_lt g1 g2 (by omega : p.1 < n)).1 (go_lt g1 g2 b2).1
        unfold inL
        rw [led_two A hm (by omega) b2 hd]
        exact decide_eq_true (List.mem_map.mpr ⟨_, ih _ s1 s2 fun h => b3 (mg_step hm (mg_srt.mp h)), rfl⟩)
    exact key h1 p a1 a2 a3
/-! the law's met couples -/
theorem at_mem {m : Mv} (h : m ∈ ms) : ∃ i, i < ms.length ∧ ldAt ms i = m.ld := by
  obtain ⟨i, hi, e⟩ := List.getElem_of_mem h
  refine ⟨i, hi, ?_⟩
  unfold ldAt
  rw [List.getElem?_eq_getElem hi, e]
  rfl
theorem mem_at {i : Nat} (h : i < ms.length) : ∃ m ∈ ms, m.ld = ldAt ms i := by
  refine ⟨ms[i], List.getElem_mem h, ?_⟩
  unfold ldAt
  rw [List.getElem?_eq_getElem h]
  rfl
theorem reach_iff (met : List (Nat × Nat)) (p : Nat × Nat) : reach ms met p = true ↔ ∃ i, i < ms.length ∧ led (ldAt ms i) (pl2 p) ∈ met.map pl2 := by
  unfold reach
  rw [List.any_eq_true]
  constructor
  · rintro ⟨m, hm, h⟩
    obtain ⟨i, hi, e⟩ := at_mem hm
    exact ⟨i, hi, by rw [e]; exact of_decide_eq_true h⟩
  · rintro ⟨i, hi, h⟩
    obtain ⟨m, hm, e⟩ := mem_at hi
    exact ⟨m, hm, by rw [e]; exact decide_eq_true h⟩
theorem metB_iff (p : Nat × Nat) : metB ms p = true ↔ ∃ i, i < ms.length ∧ go (ldAt ms i) p.1 = go (ldAt ms i) p.2 := by
  unfold metB
  rw [List.any_eq_true]
  constructor
  · rintro ⟨m, hm, h⟩
    obtain ⟨i, hi, e⟩ := at_mem hm
    exact ⟨i, hi, by rw [e]; exact of_decide_eq_true h⟩
  · rintro ⟨i, hi, h⟩
    obtain ⟨m, hm, e⟩ := mem_at hi
    exact ⟨m, hm, by rw [e]; exact decide_eq_true h⟩
theorem mg_reach (A : Aut n ms) {met : List (Nat × Nat)} (h : ∀ q ∈ met, (q.1 < q.2 ∧ q.2 < n) ∧ Mg ms q) {p : Nat × Nat} (h1 : p.1 < p.2) (h2 : p.2 < n) (hr : reach ms met p = true) : Mg ms p := by
  obtain ⟨i, hi, hr⟩ := (reach_iff met p).mp hr
  obtain ⟨q, hq, eq⟩ := List.mem_map.mp hr
  by_cases hd : go (ldAt ms i) p.1 = go (ldAt ms i) p.2
  · exact ⟨[i], fun x hx => (List.mem_singleton.mp hx) ▸ hi, hd⟩
  · rw [led_two A hi (by omega) h2 hd] at eq
    rw [pl2_inj eq] at hq
    exact mg_step hi (mg_srt.mp (h _ hq).2)
theorem mstep_mg (A : Aut n ms) : ∀ (l met : List (Nat × Nat)), (∀ p ∈ l, p.1 < p.2 ∧ p.2 < n) → (∀ q ∈ met, (q.1 < q.2 ∧ q.2 < n) ∧ Mg ms q) → ∀ q ∈ l.foldl (mstep ms) met, (q.1 < q.2 ∧ q.2 < n) ∧ Mg ms q
  | [], _, _, h => h
  | p :: l, met, hl, h => by
    refine mstep_mg A l (mstep ms met p) (fun q hq => hl q (List.mem_cons_of_mem _ hq)) ?_
    unfold mstep
    split
    · rename_i hc
      obtain ⟨b1, b2⟩ := hl p List.mem_cons_self
      rw [Bool.and_eq_true] at hc
      intro q hq
      rcases List.mem_append.mp hq with q' | q'
      · exact h q q'
      · rw [List.mem_singleton.mp q']
        exact ⟨⟨b1, b2⟩, mg_reach A h b1 b2 hc.2⟩
    · exact h
theorem mstep_len : ∀ (l met : List (Nat × Nat)), met.length ≤ (l.foldl (mstep ms) met).length ∧ ((l.foldl (mstep ms) met).length = met.length → ∀ p ∈ l, mstep ms met p = met)
  | [], _ => ⟨Nat.le_refl _, fun _ p hp => by cases hp⟩
  | p :: l, met => by
    obtain ⟨i1, i2⟩ := mstep_len l (mstep ms met p)
    have h1 : met.length ≤ (mstep ms met p).length ∧ ((mstep ms met p).length = met.length → mstep ms met p = met) := by
      unfold mstep
      split
      · rw [List.length_append, List.length_singleton]
        exact ⟨by omega, fun h => by omega⟩
      · exact ⟨Nat.le_refl _, fun _ => rfl⟩
    rw [List.foldl_cons]
    refine ⟨by omega, fun h => ?_⟩
    have e := h1.2 (by omega)
    have i3 := i2 (by omega)
    rw [e] at i3
    intro q hq
    rcases List.mem_cons.mp hq with rfl | hq
    · exact e
    · exact i3 q hq
theorem mfin_succ (k : Nat) : mfin n ms (k + 1) = mround n ms (mfin n ms k) := by
  unfold mfin
  rw [List.range_succ, List.foldl_append]
  rfl
theorem fold_same : ∀ (l met : List (Nat × Nat)), (∀ p ∈ l, mstep ms met p = met) → l.foldl (mstep ms) met = met
  | [], _, _ => rfl
  | p :: l, met, h => by
    rw [List.foldl_cons, h p List.mem_cons_self]
    exact fold_same l met fun q hq => h q (List.mem_cons_of_mem _ hq)
theorem mfin_grow (n : Nat) (ms : List Mv) : ∀ k, k ≤ (mfin n ms k).length ∨ ∀ p ∈ couplesL n, mstep ms (mfin n ms k) p = mfin n ms k
  | 0 => .inl (Nat.zero_le _)
  | k + 1 => by
    rw [mfin_succ]
    obtain ⟨h1, h2⟩ := mstep_len (ms := ms) (couplesL n) (mfin n ms k)
    unfold mround
    rcases mfin_grow n ms k with h | h
    · by_cases q : ((couplesL n).foldl (mstep ms) (mfin n ms k)).length = (mfin n ms k).length
      · right
        have := h2 q
        rw [fold_same _ _ this]
        exact this
      · left
        omega
    · right
      rw [fold_same _ _ h]
      exact h
theorem mfin_stop (n : Nat) (ms : List Mv) : ∀ p ∈ couplesL n, mstep ms (mfin n ms (couplesL n).length) p = mfin n ms (couplesL n).length := by
  have hk := mfin_grow n ms (couplesL n).length
  obtain ⟨o1, o2⟩ := mfin_ok n ms (couplesL n).length
  rcases hk with h | h
  · have h1 := nodup_len o1 o2
    intro p hp
    have h2 : p ∈ mfin n ms (couplesL n).length := by
      apply Classical.byContradiction
      intro hc
      have := nodup_len (l := p :: mfin n ms (couplesL n).length) (m := couplesL n) (List.nodup_cons.mpr ⟨hc, o1⟩) fun x hx => by
        rcases List.mem_cons.mp hx with rfl | hx
        · exact hp
        · exact o2 x hx
      rw [List.length_cons] at this
      omega
    unfold mstep
    rw [decide_eq_true h2]
    rfl
  · exact h
theorem mfin_mono (n : Nat) (ms : List Mv) : ∀ k, ∀ p ∈ mfin n ms 0, p ∈ mfin n ms k
  | 0, p, h => h
  | k + 1, p, h => by
    rw [mfin_succ]
    have sub : ∀ (l met : List (Nat × Nat)), ∀ p ∈ met, p ∈ l.foldl (mstep ms) met := fun l => by
      induction l with
      | nil => exact fun _ _ h => h
      | cons q l ih =>
        intro met p hp
        refine ih (mstep ms met q) p ?_
        unfold mstep
        split
        · exact List.mem_append_left _ hp
        · exact hp
    exact sub _ _ _ (mfin_mono n ms k p h)
theorem mfin_mem (A : Aut n ms) (p : Nat × Nat) : p ∈ mfin n ms (couplesL n).length ↔ (p.1 < p.2 ∧ p.2 < n) ∧ Mg ms p := by
  constructor
  · have key : ∀ k, ∀ q ∈ mfin n ms k, (q.1 < q.2 ∧ q.2 < n) ∧ Mg ms q := fun k => by
      induction k with
      | zero =>
        intro q hq
        obtain ⟨h1, h2⟩ := List.mem_filter.mp hq
        obtain ⟨i, hi, e⟩ := (metB_iff q).mp h2
        exact ⟨couplesL_lt q h1, [i], fun x hx => (List.mem_singleton.mp hx) ▸ hi, e⟩
      | succ k ih =>
        rw [mfin_succ]
        exact mstep_mg A _ _ couplesL_lt ih
    exact key _ p
  · rintro ⟨⟨h1, h2⟩, r, v, e⟩
    induction r generalizing p with
    | nil =>
      have e' : p.1 = p.2 := e
      omega
    | cons m r ih =>
      have hm := v.tl.1
      obtain ⟨_, _, _, g1, g2⟩ := A.at hm
      have hp := couplesL_mem h1 h2
      by_cases hd : go (ldAt ms m) p.1 = go (ldAt ms m) p.2
      · exact mfin_mono n ms _ p (List.mem_filter.mpr ⟨hp, (metB_iff p).mpr ⟨m, hm, hd⟩⟩)
      · obtain ⟨s1, s2⟩ := srt_lt hd (go_lt g1 g2 (by omega : p.1 < n)).1 (go_lt g1 g2 h2).1
        have e' : run ms r (go (ldAt ms m) p.1) = run ms r (go (ldAt ms m) p.2) := e
        have hi := ih (srt (go (ldAt ms m) p.1) (go (ldAt ms m) p.2)) s1 s2 v.tl.2 (by unfold srt; split; exact e'; exact e'.symm)
        have hs := mfin_stop n ms p hp
        generalize mfin n ms (couplesL n).length = met at hi hs
        unfold mstep at hs
        by_cases hpm : p ∈ met
        · exact hpm
        · have hr : reach ms met p = true := (reach_iff met p).mpr ⟨m, hm, by rw [led_two A hm (by omega) h2 hd]; exact List.mem_map.mpr ⟨_, hi, rfl⟩⟩
          rw [decide_eq_false hpm, hr] at hs
          have hs' : met ++ [p] = met := hs
          have := congrArg List.length hs'
          rw [List.length_append, List.length_singleton] at this
          omega
theorem lapart_mem (A : Aut n ms) (p : Nat × Nat) : p ∈ lapart n ms ↔ (p.1 < p.2 ∧ p.2 < n) ∧ ¬ Mg ms p := by
  unfold lapart
  rw [List.mem_filter]
  constructor
  · rintro ⟨h1, h2⟩
    have := couplesL_lt p h1
    refine ⟨this, fun h => ?_⟩
    rw [decide_eq_true ((mfin_mem A p).mpr ⟨this, h⟩)] at h2
    cases h2
  · rintro ⟨h1, h2⟩
    refine ⟨couplesL_mem h1.1 h1.2, ?_⟩
    rw [decide_eq_false fun h => h2 ((mfin_mem A p).mp h).2]
    rfl
/-! order of couples -/
def plt (p q : Nat × Nat) : Prop := p.1 < q.1 ∨ (p.1 = q.1 ∧ p.2 < q.2)
theorem plt_pl2 {p q : Nat × Nat} (h : plt p q) : pl2 p < pl2 q := by
  unfold pl2
  rw [List.cons_lt_cons_iff, List.cons_lt_cons_iff]
  rcases h with h | ⟨h, h2⟩
  · exact .inl h
  · exact .inr ⟨h, .inl h2⟩
theorem couplesL_asc (n : Nat) : (couplesL n).Pairwise plt := by
  unfold couplesL R_couples.couplesL
  rw [List.pairwise_flatMap]
  refine ⟨fun a _ => ?_, ?_⟩
  · rw [List.pairwise_map]
    exact List.pairwise_lt_range.imp fun {i j} h => .inr ⟨rfl, by show a + 1 + i < a + 1 + j; omega⟩
  · refine List.pairwise_lt_range.imp fun {a b} h x hx y hy => ?_
    obtain ⟨i, _, rfl⟩ := List.mem_map.mp hx
    obtain ⟨j, _, rfl⟩ := List.mem_map.mp hy
    exact .inl h
theorem lapart_asc (n : Nat) (ms : List Mv) : (lapart n ms).Pairwise plt := (couplesL_asc n).filter _
theorem gfp_nodup (n : Nat) (ms : List Mv) : (gfp n ms).Nodup := by
  refine List.Nodup.sublist (gfp_spec n ms).1.sub ?_
  unfold couples
  rw [List.nodup_iff_pairwise_ne, List.pairwise_flatMap]
  refine ⟨fun a _ => ?_, ?_⟩
  · rw [List.pairwise_map]
    exact List.pairwise_lt_range.imp fun h e => by
      have := (Prod.mk.inj e).1
      omega
  · refine List.pairwise_lt_range.imp fun {a b} h x hx y hy e => ?_
    obtain ⟨i, _, rfl⟩ := List.mem_map.mp hx
    obtain ⟨j, _, rfl⟩ := List.mem_map.mp hy
    have := (Prod.mk.inj e).2
    omega
theorem nodup_of_asc {l : List (Nat × Nat)} (h : l.Pairwise plt) : l.Nodup := h.imp fun {p q} h e => by
  subst e
  rcases h with h | ⟨_, h⟩ <;> exact absurd h (Nat.lt_irrefl _)
theorem dle_pc (p q : Nat × Nat) : dle (pc p) (pc q) = true ↔ p = q ∨ plt p q := by
  unfold dle
  rw [dataLt_nt]
  rw [Bool.not_eq_true', decide_eq_false_iff_not, List.cons_lt_cons_iff, List.cons_lt_cons_iff]
  obtain ⟨a, b⟩ := p
  obtain ⟨c, d⟩ := q
  unfold plt
  simp only [Prod.mk.injEq, List.lt_irrefl, and_false, or_false]
  have : ¬ ([] : List Nat) < [] := List.lt_irrefl _
  omega
theorem apart_eq (A : Aut n ms) : ((gfp n ms).map pc).mergeSort dle = (lapart n ms).map pc := by
  have tr : ∀ a b c : Nat × Nat, dle (pc a) (pc b) = true → dle (pc b) (pc c) = true → dle (pc a) (pc c) = true := fun a b c h g => by
    rw [dle_pc] at *
    rcases h with rfl | h
    · exact g
    · rcases g with rfl | g
      · exact .inr h
      · right
        unfold plt at *
        omega
  have tot : ∀ a b : Nat × Nat, (dle (pc a) (pc b) || dle (pc b) (pc a)) = true := fun a b => by
    rw [Bool.or_eq_true, dle_pc, dle_pc]
    obtain ⟨a1, a2⟩ := a
    obtain ⟨b1, b2⟩ := b
    unfold plt
    simp only [Prod.mk.injEq]
    omega
  have e := List.map_mergeSort (r := fun a b => dle (pc a) (pc b)) (s := dle) (f := pc) (l := gfp n ms) (fun _ _ _ _ => rfl)
  rw [← e]
  congr 1
  have pm := List.mergeSort_perm (gfp n ms) (fun a b => dle (pc a) (pc b))
  have sorted := List.pairwise_mergeSort (le := fun a b => dle (pc a) (pc b)) tr tot (gfp n ms)
  have nd := pm.nodup_iff.mpr (gfp_nodup n ms)
  have asc : ((gfp n ms).mergeSort (fun a b => dle (pc a) (pc b))).Pairwise plt := by
    rw [List.nodup_iff_pairwise_ne] at nd
    refine (sorted.and nd).imp fun {a b} h => ?_
    rcases (dle_pc a b).mp h.1 with q | q
    · exact absurd q h.2
    · exact q
  refine asc_eq plt (fun x h => by unfold plt at h; omega) (fun x y h g => by unfold plt at *; omega) asc (lapart_asc n ms) fun p => ?_
  rw [pm.mem_iff, gfp_mem A, lapart_mem A]
end A8
set_option Elab.async false
set_option linter.all false
set_option maxRecDepth 100000
set_option maxHeartbeats 1000000
/-! the search finds the first of the shortest rows -/
namespace A8
open PySem PySem.Spec PyProof.Rows L2
variable {n : Nat} {ms : List Mv}
abbrev Tri := List Nat × List Nat × Nat
def triR (t : Tri) : List Nat := t.1 ++ [t.2.2]
def bs (ms : List Mv) (st : RL × RL) (t : Tri) : RL × RL := bstep ms t.1 t.2.1 st t.2.2
def tris (k : Nat) (L : RL) : List Tri := L.flatMap fun rl => (List.range k).map fun m => (rl.1, rl.2, m)
theorem blevel_tris (K L : RL) : blevel ms K L = (tris ms.length L).foldl (bs ms) (K, []) := by
  unfold blevel tris
  rw [List.foldl_flatMap]
  congr 1
  funext st rl
  rw [List.foldl_map]
  rfl
theorem tris_rows (k : Nat) (L : RL) : (tris k L).map triR = expR k L := by
  unfold tris expR
  rw [List.map_flatMap]
  congr 1
  funext rl
  rw [List.map_map]
  rfl
theorem bs_mono : ∀ (X : List Tri) (st : RL × RL), ∀ e ∈ st.2, e ∈ (X.foldl (bs ms) st).2
  | [], _, _, h => h
  | t :: X, st, e, h => by
    refine bs_mono X (bs ms st t) e ?_
    unfold bs bstep
    split
    · exact h
    · exact List.mem_append_left _ h
theorem bs_sound : ∀ (X : List Tri) (st : RL × RL), ∀ e ∈ (X.foldl (bs ms) st).2, e ∈ st.2 ∨ ∃ t ∈ X, e = (triR t, led (ldAt ms t.2.2) t.2.1)
  | [], _, _, h => .inl h
  | t :: X, st, e, h => by
    rcases bs_sound X (bs ms st t) e h with q | ⟨t', ht, q⟩
    · unfold bs bstep at q
      split at q
      · exact .inl q
      · rcases List.mem_append.mp q with q | q
        · exact .inl q
        · exact .inr ⟨t, List.mem_cons_self, List.mem_singleton.mp q⟩
    · exact .inr ⟨t', List.mem_cons_of_mem _ ht, q⟩
theorem bs_ex {K : RL} : ∀ (X : List Tri) (st : RL × RL), (st.1 = K ++ st.2.map fun rl => (rl.2, rl.1)) → (X.foldl (bs ms) st).1 = K ++ (X.foldl (bs ms) st).2.map fun rl => (rl.2, rl.1)
  | [], _, h => h
  | t :: X, st, h => by
    refine bs_ex X (bs ms st t) ?_
    unfold bs bstep
    split
    · exact h
    · show st.1 ++ _ = _
      rw [List.map_append, ← List.append_assoc, ← h]
      rfl
theorem bs_cov {K : RL} : ∀ (X : List Tri) (st : RL × RL), (X.map triR).Pairwise (· < ·) → (∀ e ∈ st.2, ∀ t ∈ X, e.1 < triR t) → (st.1 = K ++ st.2.map fun rl => (rl.2, rl.1)) →
    ∀ t ∈ X, led (ldAt ms t.2.2) t.2.1 ∈ K.map (·.1) ∨ ∃ e ∈ (X.foldl (bs ms) st).2, e.2 = led (ldAt ms t.2.2) t.2.1 ∧ (e.1 = triR t ∨ e.1 < triR t)
  | [], _, _, _, _, t, h => by cases h
  | t0 :: X, st, ha, hb, hx, t, ht => by
    rw [List.map_cons, List.pairwise_cons] at ha
    have hx' := bs_ex (ms := ms) [t0] st hx
    rcases List.mem_cons.mp ht with rfl | ht
    · by_cases q : led (ldAt ms t.2.2) t.2.1 ∈ st.1.map (·.1)
      · rw [hx, List.map_append, List.mem_append] at q
        rcases q with q | q
        · exact .inl q
        · rw [List.map_map] at q
          obtain ⟨e, he, e2⟩ := List.mem_map.mp q
          exact .inr ⟨e, bs_mono (t :: X) st e he, e2, .inr (hb e he t List.mem_cons_self)⟩
      · refine .inr ⟨(triR t, led (ldAt ms t.2.2) t.2.1), ?_, rfl, .inl rfl⟩
        refine bs_mono X (bs ms st t) _ ?_
        unfold bs bstep
        rw [if_neg q]
        exact List.mem_append_right _ (List.mem_singleton.mpr rfl)
    · refine bs_cov X (bs ms st t0) ha.2 (fun e he t' ht' => ?_) hx' t ht
      rcases bs_sound [t0] st e he with q | ⟨t2, h2, q⟩
      · exact hb e q t' (List.mem_cons_of_mem _ ht')
      · rw [List.mem_singleton.mp h2] at q
        rw [q]
        exact ha.1 _ (List.mem_map.mpr ⟨t', ht', rfl⟩)
abbrev ro (n : Nat) (ms : List Mv) (w : List Nat) : List Nat := img ms w (List.range n)
structure Bfs (n : Nat) (ms : List Mv) (d : Nat) (K L : RL) : Prop where
  wf : Wf n ms.length K L
  len : ∀ rl ∈ L, rl.1.length = d ∧ Vd ms rl.1 ∧ rl.2 = ro n ms rl.1
  known : ∀ kv ∈ K, ∃ w : List Nat, w.length ≤ d ∧ Vd ms w ∧ kv.1 = ro n ms w
  lev : ∀ w : List Nat, Vd ms w → w.length = d → (∃ w' : List Nat, Vd ms w' ∧ w'.length < d ∧ ro n ms w' = ro n ms w) ∨ ∃ rl ∈ L, rl.2 = ro n ms w ∧ (rl.1 = w ∨ rl.1 < w)
theorem bfs0 (A : Aut n ms) : Bfs n ms 0 (K0 n) (L0 n) := by
  refine ⟨wf0 A.n12, fun rl h => ?_, fun kv h => ?_, fun w v h => ?_⟩
  · rw [List.mem_singleton.mp h]
    exact ⟨rfl, fun m hm => (by cases hm), rfl⟩
  · rw [List.mem_singleton.mp h]
    exact ⟨[], Nat.le_refl _, fun m hm => (by cases hm), rfl⟩
  · cases w with
    | nil => exact .inr ⟨_, List.mem_singleton.mpr rfl, rfl, .inl rfl⟩
    | cons a w => cases h
theorem ro_snoc (w : List Nat) (m : Nat) : ro n ms (w ++ [m]) = led (ldAt ms m) (ro n ms w) := by
  unfold ro
  rw [img_app]
  rfl
theorem Bfs.next (A : Aut n ms) {d : Nat} {K L : RL} (h : Bfs n ms d K L) : Bfs n ms (d + 1) (blevel ms K L).1 (blevel ms K L).2 := by
  have hasc : ((tris ms.length L).map triR).Pairwise (· < ·) := by
    rw [tris_rows]
    exact expR_asc h.wf.asc fun rl hr => (h.len rl hr).1
  have hsound : ∀ e ∈ (blevel ms K L).2, ∃ rl ∈ L, ∃ m, m < ms.length ∧ e = (rl.1 ++ [m], led (ldAt ms m) rl.2) := fun e he => by
    rw [blevel_tris] at he
    rcases bs_sound _ _ e he with q | ⟨t, ht, q⟩
    · cases q
    · obtain ⟨rl, h1, h2⟩ := List.mem_flatMap.mp ht
      obtain ⟨m, h3, rfl⟩ := List.mem_map.mp h2
      exact ⟨rl, h1, m, List.mem_range.mp h3, q⟩
  have hlen : ∀ rl ∈ (blevel ms K L).2, rl.1.length = d + 1 ∧ Vd ms rl.1 ∧ rl.2 = ro n ms rl.1 := fun e he => by
    obtain ⟨rl, h1, m, h2, rfl⟩ := hsound e he
    obtain ⟨a1, a2, a3⟩ := h.len rl h1
    refine ⟨by rw [List.length_append, a1]; rfl, a2.app fun x hx => (List.mem_singleton.mp hx) ▸ h2, ?_⟩
    rw [ro_snoc, ← a3]
  refine ⟨(h.wf.next A).1, hlen, fun kv hkv => ?_, fun w v hw => ?_⟩
  · have e : (blevel ms K L).1 = K ++ (blevel ms K L).2.map fun rl => (rl.2, rl.1) := by
      rw [blevel_tris]
      exact bs_ex _ _ (by simp)
    rw [e] at hkv
    rcases List.mem_append.mp hkv with q | q
    · obtain ⟨w, h1, h2⟩ := h.known kv q
      exact ⟨w, by omega, h2⟩
    · obtain ⟨rl, h1, rfl⟩ := List.mem_map.mp q
      obtain ⟨a1, a2, a3⟩ := hlen rl h1
      exact ⟨rl.1, by omega, a2, a3⟩
  · rcases List.eq_nil_or_concat w with rfl | ⟨u, m, rfl⟩
    · cases hw
    · rw [List.concat_eq_append] at v hw ⊢
      rw [List.length_append, List.length_singleton] at hw
      have hm : m < ms.length := v m (by simp)
      rcases h.lev u v.left (by omega) with ⟨u', b1, b2, b3⟩ | ⟨rl, b1, b2, b3⟩
      · exact .inl ⟨u' ++ [m], b1.app fun x hx => (List.mem_singleton.mp hx) ▸ hm, by rw [List.length_append, List.length_singleton]; omega, by rw [ro_snoc, ro_snoc, b3]⟩
      · have hl := (h.len rl b1).1
        have hcov := bs_cov (ms := ms) (K := K) (tris ms.length L) (K, []) hasc (fun e he => by cases he) (by simp) (rl.1, rl.2, m) (List.mem_flatMap.mpr ⟨rl, b1, List.mem_map.mpr ⟨m, List.mem_range.mpr hm, rfl⟩⟩)
        rw [← blevel_tris] at hcov
        rcases hcov with q | ⟨e, h1, h2, h3⟩
        · obtain ⟨kv, h4, h5⟩ := List.mem_map.mp q
          obtain ⟨w', h6, h7, h8⟩ := h.known kv h4
          exact .inl ⟨w', h7, by omega, by rw [← h8, h5, ro_snoc, ← b2]⟩
        · refine .inr ⟨e, h1, by rw [h2, ro_snoc, ← b2], ?_⟩
          have hle : rl.1 ++ [m] = u ++ [m] ∨ rl.1 ++ [m] < u ++ [m] := by
            rcases b3 with b3 | b3
            · exact .inl (by rw [b3])
            · exact .inr (lt_snoc (by omega) b3)
          unfold triR at h3
          rcases h3 with h3 | h3
          · rw [h3]; exact hle
          · rcases hle with q | q
            · rw [← q]; exact .inr h3
            · exact .inr (List.lt_trans h3 q)
/-- the search ends -/
theorem runs_ex (A : Aut n ms) : ∀ (k d : Nat) (K L : RL), 4096 ≤ K.length + k → Bfs n ms d K L → ∃ o, Runs ms K L o
  | k, d, K, L, hk, h => by
    by_cases h0 : L = []
    · subst h0
      exact ⟨none, .nil⟩
    · cases he : endedL L with
      | cons r rs => exact ⟨some r, .found he⟩
      | nil =>
        have hn := h.next A
        have hlen := (h.wf.next A).2
        by_cases h1 : (blevel ms K L).2 = []
        · refine ⟨none, .next h0 he ?_⟩
          rw [h1]
          exact .nil
        · have hp := List.length_pos_iff.mpr h1
          have hf := hn.wf.kk.few
          cases k with
          | zero => omega
          | succ k =>
            obtain ⟨o, ho⟩ := runs_ex A k (d + 1) _ _ (by omega) hn
            exact ⟨o, .next h0 he ho⟩
/-- a row that ends, none is shorter, none as short stands before it -/
structure Least (n : Nat) (ms : List Mv) (r : List Nat) : Prop where
  vd : Vd ms r
  one : (ro n ms r).length = 1
  short : ∀ w, Vd ms w → (ro n ms w).length = 1 → r.length ≤ w.length
  least : ∀ w, Vd ms w → (ro n ms w).length = 1 → w.length = r.length → r = w ∨ r < w
theorem mem_endedL {L : RL} {r : List Nat} : r ∈ endedL L ↔ ∃ rl ∈ L, rl.2.length = 1 ∧ rl.1 = r := by
  unfold endedL
  rw [List.mem_map]
  constructor
  · rintro ⟨rl, h1, h2⟩
    obtain ⟨h3, h4⟩ := List.mem_filter.mp h1
    exact ⟨rl, h3, of_decide_eq_true h4, h2⟩
  · rintro ⟨rl, h1, h2, h3⟩
    exact ⟨rl, List.mem_filter.mpr ⟨h1, decide_eq_true h2⟩, h3⟩
theorem runs_spec (A : Aut n ms) {K L : RL} {o : Option (List Nat)} (h : Runs ms K L o) : ∀ d, Bfs n ms d K L → (∀ w, Vd ms w → w.length < d → (ro n ms w).length ≠ 1) →
    (∀ r, o = some r → Least n ms r) ∧ (o = none → ∀ w, Vd ms w → (ro n ms w).length ≠ 1) := by
  induction h with
  | nil =>
    intro d b hs
    refine ⟨fun r e => (by cases e), fun _ => ?_⟩
    have key : ∀ (k : Nat) (w : List Nat), w.length ≤ k → Vd ms w → (ro n ms w).length ≠ 1 := fun k => by
      induction k with
      | zero =>
        intro w hw v
        by_cases q : w.length < d
        · exact hs w v q
        · rcases b.lev w v (by omega) with ⟨_, _, h, _⟩ | ⟨_, h, _⟩
          · omega
          · cases h
      | succ k ih =>
        intro w hw v
        by_cases q : w.length < d
        · exact hs w v q
        · have ew : w = w.take d ++ w.drop d := (List.take_append_drop d w).symm
          rw [ew] at v
          have hl : (w.take d).length = d := by rw [List.length_take]; omega
          rcases b.lev (w.take d) v.left hl with ⟨u, h1, h2, h3⟩ | ⟨_, h, _⟩
          · have : ro n ms w = ro n ms (u ++ w.drop d) := by
              rw [ew]
              unfold ro at h3 ⊢
              rw [img_app, img_app, h3, List.drop_append_of_le_length (by omega), List.drop_take_self]
              rfl
            rw [this]
            refine ih _ ?_ (h1.app v.right)
            rw [List.length_append, List.length_drop]
            omega
          · cases h
    exact fun w v => key w.length w (Nat.le_refl _) v
  | @found K L r rs he =>
    intro d b hs
    refine ⟨fun r' e => ?_, fun e => (by cases e)⟩
    cases e
    obtain ⟨rl, h1, h2, h3⟩ := mem_endedL.mp (show r ∈ endedL L by rw [he]; exact List.mem_cons_self)
    obtain ⟨a1, a2, a3⟩ := b.len rl h1
    subst h3
    refine ⟨a2, by rw [← a3]; exact h2, fun w v hw => ?_, fun w v hw hl => ?_⟩
    · apply Classical.byContradiction
      intro hc
      exact hs w v (by omega) hw
    · rcases b.lev w v (by omega) with ⟨w', c1, c2, c3⟩ | ⟨rl', c1, c2, c3⟩
      · exact absurd (by rw [c3]; exact hw) (hs w' c1 c2)
      · have hm : rl'.1 ∈ endedL L := mem_endedL.mpr ⟨rl', c1, by rw [c2]; exact hw, rfl⟩
        have hasc : (endedL L).Pairwise (· < ·) := b.wf.asc.sublist ((List.filter_sublist).map _)
        rw [he] at hm hasc
        have : rl.1 = rl'.1 ∨ rl.1 < rl'.1 := by
          rcases List.mem_cons.mp hm with q | q
          · exact .inl q.symm
          · exact .inr ((List.pairwise_cons.mp hasc).1 _ q)
        rcases this with q | q
        · rw [q]; exact c3
        · rcases c3 with c | c
          · rw [← c]; exact .inr q
          · exact .inr (List.lt_trans q c)
  | @next K L o h0 he _ ih =>
    intro d b hs
    refine ih (d + 1) (b.next A) fun w v hw ho => ?_
    by_cases q : w.length < d
    · exact hs w v q ho
    · rcases b.lev w v (by omega) with ⟨w', c1, c2, c3⟩ | ⟨rl', c1, c2, c3⟩
      · exact absurd (by rw [c3]; exact ho) (hs w' c1 c2)
      · have hm : rl'.1 ∈ endedL L := mem_endedL.mpr ⟨rl', c1, by rw [c2]; exact ho, rfl⟩
        rw [he] at hm
        cases hm
theorem mrg_spec (A : Aut n ms) : (∀ r, mrg n ms = some r → Least n ms r) ∧ (mrg n ms = none → ∀ w, Vd ms w → (ro n ms w).length ≠ 1) := by
  obtain ⟨o, ho⟩ := runs_ex A 4096 0 (K0 n) (L0 n) (by omega) (bfs0 A)
  rw [mrg_of ho]
  exact runs_spec A ho 0 (bfs0 A) fun w _ h => absurd h (Nat.not_lt_zero _)
/-! the law's other search: all rows -/
theorem run_snoc (w : List Nat) (m x : Nat) : run ms (w ++ [m]) x = go (ldAt ms m) (run ms w x) := by
  rw [run_app]
  rfl
structure All (n : Nat) (ms : List Mv) (d : Nat) (L : RL) : Prop where
  sf : Sf n ms.length d L
  st : ∀ rl ∈ L, Vd ms rl.1 ∧ rl.2 = (List.range n).map (run ms rl.1)
  all : ∀ w, Vd ms w → w.length = d → ∃ rl ∈ L, rl.1 = w
theorem all0 : All n ms 0 (L0 n) := by
  refine ⟨⟨by simp [L0], fun rl h => by rw [List.mem_singleton.mp h]; rfl, fun rl h => by rw [List.mem_singleton.mp h]; exact ⟨List.length_range, fun x hx => List.mem_range.mp hx⟩, Nat.le_refl _⟩, fun rl h => ?_, fun w v h => ?_⟩
  · rw [List.mem_singleton.mp h]
    refine ⟨fun m hm => (by cases hm), ?_⟩
    have : run ms [] = id := rfl
    rw [this, List.map_id]
  · cases w with
    | nil => exact ⟨_, List.mem_singleton.mpr rfl, rfl⟩
    | cons a w => cases h
theorem All.next (A : Aut n ms) (h4 : ms.length ≤ 4) {d : Nat} {L : RL} (h : All n ms d L) : All n ms (d + 1) (snext ms L) := by
  refine ⟨h.sf.next A h4, fun e he => ?_, fun w v hw => ?_⟩
  · obtain ⟨rl, h1, h2⟩ := List.mem_flatMap.mp he
    obtain ⟨m, h3, rfl⟩ := List.mem_map.mp h2
    obtain ⟨a1, a2⟩ := h.st rl h1
    refine ⟨a1.app fun x hx => (List.mem_singleton.mp hx) ▸ List.mem_range.mp h3, ?_⟩
    rw [a2, List.map_map]
    refine List.map_congr_left fun x _ => ?_
    rw [run_snoc]
    rfl
  · rcases List.eq_nil_or_concat w with rfl | ⟨u, m, rfl⟩
    · cases hw
    · rw [List.concat_eq_append] at v hw ⊢
      rw [List.length_append, List.length_singleton] at hw
      obtain ⟨rl, h1, h2⟩ := h.all u v.left (by omega)
      exact ⟨_, List.mem_flatMap.mpr ⟨rl, h1, List.mem_map.mpr ⟨m, List.mem_range.mpr (v m (by simp)), rfl⟩⟩, by rw [h2]⟩
theorem lot_run (A : Aut n ms) {w : List Nat} (v : Vd ms w) : lot ((List.range n).map (run ms w)) = ro n ms w := by
  have hr : ∀ x ∈ List.range n, x < n := fun x hx => List.mem_range.mp hx
  refine asc_eq (· < ·) (fun x => Nat.lt_irrefl x) (fun x y h => by omega) (lot_asc _) (img_lot A v (isLot_range A.n12)).asc fun y => ?_
  rw [mem_img A v hr, mem_lot]
  · exact List.mem_map
  · intro z hz
    obtain ⟨x, hx, rfl⟩ := List.mem_map.mp hz
    have := run_lt A v (hr x hx)
    have := A.n12
    omega
theorem All.ended (A : Aut n ms) {d : Nat} {L : RL} (h : All n ms d L) {w : List Nat} : w ∈ sEnded L ↔ Vd ms w ∧ w.length = d ∧ (ro n ms w).length = 1 := by
  unfold sEnded
  rw [List.mem_map]
  constructor
  · rintro ⟨rl, h1, rfl⟩
    obtain ⟨h3, h4⟩ := List.mem_filter.mp h1
    obtain ⟨a1, a2⟩ := h.st rl h3
    have := of_decide_eq_true h4
    rw [a2, lot_run A a1] at this
    exact ⟨a1, h.sf.len rl h3, this⟩
  · rintro ⟨v, hw, ho⟩
    obtain ⟨rl, h1, h2⟩ := h.all w v hw
    obtain ⟨a1, a2⟩ := h.st rl h1
    refine ⟨rl, List.mem_filter.mpr ⟨h1, decide_eq_true ?_⟩, h2⟩
    rw [a2, lot_run A a1, h2]
    exact ho
theorem shr_none (A : Aut n ms) (h4 : ms.length ≤ 4) (hn : ∀ w, Vd ms w → (ro n ms w).length ≠ 1) : ∀ (t d : Nat) (L : RL), All n ms d L → shr ms t L = none
  | 0, _, _, _ => rfl
  | t + 1, d, L, h => by
    have he : sEnded L = [] := by
      cases hz : sEnded L with
      | nil => rfl
      | cons r rs =>
        obtain ⟨v, _, ho⟩ := (h.ended A).mp (show r ∈ sEnded L by rw [hz]; exact List.mem_cons_self)
        exact absurd ho (hn r v)
    rw [shr, he]
    exact shr_none A h4 hn t (d + 1) _ (h.next A h4)
theorem shr_some (A : Aut n ms) (h4 : ms.length ≤ 4) {r : List Nat} (hr : Least n ms r) : ∀ (t d : Nat) (L : RL), All n ms d L → d ≤ r.length → r.length < d + t → shr ms t L = some r
  | 0, _, _, _, _, _ => by omega
  | t + 1, d, L, h, h1, h2 => by
    rw [shr]
    cases hz : sEnded L with
    | nil =>
      have hne : d ≠ r.length := fun e => by
        have := (h.ended A).mpr ⟨hr.vd, e.symm, hr.one⟩
        rw [hz] at this
        cases this
      exact shr_some A h4 hr t (d + 1) _ (h.next A h4) (by omega) (by omega)
    | cons s rs =>
      obtain ⟨v, hl, ho⟩ := (h.ended A).mp (show s ∈ sEnded L by rw [hz]; exact List.mem_cons_self)
      have h3 := hr.short s v ho
      have hd : r.length = d := by omega
      have hm := (h.ended A).mpr ⟨hr.vd, hd, hr.one⟩
      have hasc := sEnded_asc h.sf
      rw [hz] at hm hasc
      show some s = some r
      rcases hr.least s v ho (by omega) with q | q
      · rw [q]
      · rcases List.mem_cons.mp hm with q2 | q2
        · rw [q2]
        · exact absurd ((List.pairwise_cons.mp hasc).1 r q2) (natl_asymm q)
end A8
set_option Elab.async false
set_option linter.all false
set_option maxRecDepth 100000
set_option maxHeartbeats 1000000
/-! how long a row must be to make a lot smaller -/
namespace A8
open PySem PySem.Spec PyProof.Rows L2
variable {n : Nat} {ms : List Mv}
theorem count_by {α β : Type} (P : β → α → Bool) (c : Nat) : ∀ (us : List β) (l : List α), (∀ x ∈ l, ∃ u ∈ us, P u x = true) → (∀ u ∈ us, ∀ l' : List α, l'.Sublist l → (l'.filter (P u)).length ≤ c) → l.length ≤ us.length * c
  | [], l, h, _ => by
    cases l with
    | nil => exact Nat.zero_le _
    | cons x l =>
      obtain ⟨u, hu, _⟩ := h x List.mem_cons_self
      cases hu
  | u :: us, l, h, hc => by
    have h1 := hc u List.mem_cons_self l (List.Sublist.refl _)
    have ih := count_by P c us (l.filter fun x => !P u x) (fun x hx => by
      obtain ⟨h2, h3⟩ := List.mem_filter.mp hx
      obtain ⟨u', hu, hp⟩ := h x h2
      rcases List.mem_cons.mp hu with rfl | hu
      · rw [hp] at h3; cases h3
      · exact ⟨u', hu, hp⟩) fun u' hu l' hl => hc u' (List.mem_cons_of_mem _ hu) l' (hl.trans List.filter_sublist)
    have h3 : l.length = (l.filter (P u)).length + (l.filter fun x => !P u x).length := by
      clear ih h1 hc h
      induction l with
      | nil => rfl
      | cons x l ih =>
        rw [List.filter_cons, List.filter_cons]
        cases P u x
        · simp; omega
        · simp; omega
    rw [List.length_cons, Nat.add_mul, Nat.one_mul]
    omega
/-- a shortest row that makes the lot S smaller -/
structure Shr (n : Nat) (ms : List Mv) (S w : List Nat) : Prop where
  vd : Vd ms w
  lt : (img ms w S).length < S.length
  min : ∀ v, Vd ms v → v.length < w.length → (img ms v S).length = S.length
theorem shr_ex (A : Aut n ms) {S : List Nat} (hS : IsLot n S) : ∀ (k : Nat) (w : List Nat), w.length ≤ k → Vd ms w → (img ms w S).length < S.length → ∃ v, Shr n ms S v
  | 0, w, hk, v, hl => ⟨w, v, hl, fun u _ h => by omega⟩
  | k + 1, w, hk, v, hl => by
    by_cases h : ∃ u, Vd ms u ∧ u.length < w.length ∧ (img ms u S).length < S.length
    · obtain ⟨u, h1, h2, h3⟩ := h
      exact shr_ex A hS k u (by omega) h1 h3
    · refine ⟨w, v, hl, fun u vu hu => ?_⟩
      have := img_le A vu hS
      apply Classical.byContradiction
      intro hc
      exact h ⟨u, vu, hu, by omega⟩
theorem take_vd {w : List Nat} (v : Vd ms w) (j : Nat) : Vd ms (w.take j) ∧ Vd ms (w.drop j) := by
  rw [← List.take_append_drop j w] at v
  exact ⟨v.left, v.right⟩
theorem run_split (w : List Nat) (j x : Nat) : run ms w x = run ms (w.drop j) (run ms (w.take j) x) := by
  rw [← run_app, List.take_append_drop]
/-- what a shortest row does: two states that meet at its end only -/
theorem shr_facts (A : Aut n ms) {S w : List Nat} (hS : IsLot n S) (h : Shr n ms S w) : ∃ f g : Nat → Nat,
    (∀ j, j < w.length → f j ≠ g j ∧ f j < n ∧ g j < n ∧ f j ∈ img ms (w.take j) S ∧ g j ∈ img ms (w.take j) S) ∧
    ∀ i j, i < j → j < w.length → ¬ (f j ∈ img ms (w.take i) S ∧ g j ∈ img ms (w.take i) S) := by
  obtain ⟨x, hx, y, hy, hxy, e⟩ := img_meet A h.vd hS h.lt
  have hn : ∀ j, j < w.length → run ms (w.take j) x ≠ run ms (w.take j) y := fun j hj q => by
    have h1 := img_lt A (take_vd h.vd j).1 hS hx hy hxy q
    have h2 := h.min (w.take j) (take_vd h.vd j).1 (by rw [List.length_take]; omega)
    omega
  refine ⟨fun j => run ms (w.take j) x, fun j => run ms (w.take j) y, fun j hj => ⟨hn j hj, run_lt A (take_vd h.vd j).1 (hS.2 x hx), run_lt A (take_vd h.vd j).1 (hS.2 y hy), (mem_img A (take_vd h.vd j).1 hS.2 _).mpr ⟨x, hx, rfl⟩, (mem_img A (take_vd h.vd j).1 hS.2 _).mpr ⟨y, hy, rfl⟩⟩, ?_⟩
  rintro i j hij hj ⟨q1, q2⟩
  obtain ⟨x', hx', e1⟩ := (mem_img A (take_vd h.vd i).1 hS.2 _).mp q1
  obtain ⟨y', hy', e2⟩ := (mem_img A (take_vd h.vd i).1 hS.2 _).mp q2
  have e1 : run ms (w.take i) x' = run ms (w.take j) x := e1
  have e2 : run ms (w.take i) y' = run ms (w.take j) y := e2
  have hd : x' ≠ y' := fun q => hn j hj (by rw [← e1, ← e2, q])
  have v : Vd ms (w.take i ++ w.drop j) := (take_vd h.vd i).1.app (take_vd h.vd j).2
  have hm : run ms (w.take i ++ w.drop j) x' = run ms (w.take i ++ w.drop j) y' := by
    rw [run_app, run_app, e1, e2, ← run_split, ← run_split, e]
  have h1 := img_lt A v hS hx' hy' hd hm
  have h2 := h.min _ v (by rw [List.length_append, List.length_take, List.length_drop]; omega)
  omega
theorem couples12 : (couplesL 12).length = 66 := by decide
theorem nodup_range' (l : List Nat) (h : l.Pairwise (· < ·)) : l.Nodup := h.imp fun h => Nat.ne_of_lt h
theorem shr_66 (A : Aut n ms) {S w : List Nat} (hS : IsLot n S) (h : Shr n ms S w) : w.length ≤ 66 := by
  obtain ⟨f, g, h1, h2⟩ := shr_facts A hS h
  have hd : ((List.range w.length).map fun j => srt (f j) (g j)).Nodup := by
    rw [List.nodup_iff_pairwise_ne, List.pairwise_map]
    refine List.Pairwise.imp_of_mem (fun {i j} hi hj hij e => ?_) (List.pairwise_lt_range (n := w.length))
    have hj := List.mem_range.mp hj
    have hi := List.mem_range.mp hi
    refine h2 i j hij hj ?_
    obtain ⟨_, _, _, m1, m2⟩ := h1 i hi
    unfold srt at e
    split at e <;> split at e <;> obtain ⟨e1, e2⟩ := Prod.mk.inj e <;> rw [← e1, ← e2] <;> exact ⟨by assumption, by assumption⟩
  have := nodup_len (m := couplesL 12) hd fun p hp => by
    obtain ⟨j, hj, rfl⟩ := List.mem_map.mp hp
    obtain ⟨a1, a2, a3, _⟩ := h1 j (List.mem_range.mp hj)
    have := A.n12
    obtain ⟨b1, b2⟩ := srt_lt (n := 12) a1 (by omega) (by omega)
    exact couplesL_mem b1 b2
  rw [List.length_map, List.length_range, couples12] at this
  exact this
def cpl (n : Nat) (S : List Nat) : List Nat := (List.range n).filter fun x => !decide (x ∈ S)
theorem mem_cpl {S : List Nat} {x : Nat} : x ∈ cpl n S ↔ x < n ∧ x ∉ S := by
  unfold cpl
  rw [List.mem_filter, List.mem_range]
  simp
theorem cpl_len {S : List Nat} (hS : IsLot n S) : (cpl n S).length + S.length ≤ n := by
  have hd : (cpl n S ++ S).Nodup := by
    rw [List.nodup_append]
    refine ⟨nodup_range' _ (List.pairwise_lt_range.filter _), hS.nodup, fun a ha b hb e => ?_⟩
    rw [e] at ha
    exact (mem_cpl.mp ha).2 hb
  have := nodup_len (m := List.range n) hd fun x hx => by
    rcases List.mem_append.mp hx with q | q
    · exact List.mem_range.mpr (mem_cpl.mp q).1
    · exact List.mem_range.mpr (hS.2 x q)
  rw [List.length_append, List.length_range] at this
  exact this
theorem shr_sq (A : Aut n ms) {S w : List Nat} (hS : IsLot n S) (h : Shr n ms S w) {s : Nat} (hs : n ≤ S.length + s) : w.length ≤ 1 + s * (s + 1) := by
  obtain ⟨f, g, h1, h2⟩ := shr_facts A hS h
  by_cases hw : w.length = 0
  · omega
  have hB : ∀ i, i < w.length → (cpl n (img ms (w.take i) S)).length ≤ s := fun i hi => by
    have a1 := cpl_len (n := n) (img_lot A (take_vd h.vd i).1 hS)
    have a2 := h.min (w.take i) (take_vd h.vd i).1 (by rw [List.length_take]; omega)
    omega
  -- the moments 1 .. length - 1
  let l := (List.range (w.length - 1)).map (· + 1)
  have hl : l.Pairwise (· < ·) := by
    show ((List.range (w.length - 1)).map (· + 1)).Pairwise (· < ·)
    rw [List.pairwise_map]
    exact List.pairwise_lt_range.imp fun h => by omega
  have hm : ∀ j ∈ l, 0 < j ∧ j < w.length := fun j hj => by
    obtain ⟨i, hi, rfl⟩ := List.mem_map.mp hj
    have := List.mem_range.mp hi
    omega
  have key := count_by (fun u j => decide (f j = u) || decide (g j = u)) (s + 1) (cpl n (img ms (w.take 0) S)) l (fun j hj => by
    obtain ⟨j0, jw⟩ := hm j hj
    obtain ⟨_, b1, b2, _⟩ := h1 j jw
    have := h2 0 j j0 jw
    by_cases q : f j ∈ img ms (w.take 0) S
    · exact ⟨g j, mem_cpl.mpr ⟨b2, fun q2 => this ⟨q, q2⟩⟩, by simp⟩
    · exact ⟨f j, mem_cpl.mpr ⟨b1, q⟩, by simp⟩) fun u hu l' hsub => by
      have hasc : (l'.filter fun j => decide (f j = u) || decide (g j = u)).Pairwise (· < ·) := (hl.sublist hsub).filter _
      have hin : ∀ j ∈ (l'.filter fun j => decide (f j = u) || decide (g j = u)), (j < w.length) ∧ (f j = u ∨ g j = u) := fun j hj => by
        obtain ⟨c1, c2⟩ := List.mem_filter.mp hj
        refine ⟨(hm j (hsub.subset c1)).2, ?_⟩
        simpa using c2
      generalize (l'.filter fun j => decide (f j = u) || decide (g j = u)) = J at hasc hin
      cases J with
      | nil => exact Nat.zero_le _
      | cons j1 J =>
        rw [List.pairwise_cons] at hasc
        obtain ⟨w1, u1⟩ := hin j1 List.mem_cons_self
        obtain ⟨_, _, _, m1, m2⟩ := h1 j1 w1
        have hu1 : u ∈ img ms (w.take j1) S := by
          rcases u1 with q | q
          · rw [← q]; exact m1
          · rw [← q]; exact m2
        let o := fun j => if f j = u then g j else f j
        have ho : ∀ j ∈ J, o j ∈ cpl n (img ms (w.take j1) S) := fun j hj => by
          obtain ⟨wj, uj⟩ := hin j (List.mem_cons_of_mem _ hj)
          obtain ⟨_, b1, b2, _⟩ := h1 j wj
          have hno := h2 j1 j (hasc.1 j hj) wj
          show (if f j = u then g j else f j) ∈ _
          split
          · rename_i q
            exact mem_cpl.mpr ⟨b2, fun q2 => hno ⟨by rw [q]; exact hu1, q2⟩⟩
          · rename_i q
            have q3 : g j = u := uj.resolve_left q
            exact mem_cpl.mpr ⟨b1, fun q2 => hno ⟨q2, by rw [q3]; exact hu1⟩⟩
        have hd : (J.map o).Nodup := by
          rw [List.nodup_iff_pairwise_ne, List.pairwise_map]
          refine List.Pairwise.imp_of_mem (fun {i j} hi hj hij e => ?_) hasc.2
          obtain ⟨wi, ui⟩ := hin i (List.mem_cons_of_mem _ hi)
          obtain ⟨wj, uj⟩ := hin j (List.mem_cons_of_mem _ hj)
          obtain ⟨_, _, _, n1, n2⟩ := h1 i wi
          refine h2 i j hij wj ?_
          have e' : (if f i = u then g i else f i) = if f j = u then g j else f j := e
          split at e'
          · rename_i p1
            split at e'
            · rename_i p2
              exact ⟨by rw [p2, ← p1]; exact n1, by rw [← e']; exact n2⟩
            · rename_i p2
              have p3 : g j = u := uj.resolve_left p2
              exact ⟨by rw [← e']; exact n2, by rw [p3, ← p1]; exact n1⟩
          · rename_i p1
            have p0 : g i = u := ui.resolve_left p1
            split at e'
            · rename_i p2
              exact ⟨by rw [p2, ← p0]; exact n2, by rw [← e']; exact n1⟩
            · rename_i p2
              have p3 : g j = u := uj.resolve_left p2
              exact ⟨by rw [← e']; exact n1, by rw [p3, ← p0]; exact n2⟩
        have := nodup_len (m := cpl n (img ms (w.take j1) S)) hd fun x hx => by
          obtain ⟨j, hj, rfl⟩ := List.mem_map.mp hx
          exact ho j hj
        rw [List.length_map] at this
        have := hB j1 w1
        rw [List.length_cons]
        omega
  have h0 := hB 0 (by omega)
  have hle : (cpl n (img ms (w.take 0) S)).length * (s + 1) ≤ s * (s + 1) := Nat.mul_le_mul_right _ h0
  have e : l.length = w.length - 1 := by
    show ((List.range (w.length - 1)).map (· + 1)).length = _
    rw [List.length_map, List.length_range]
  omega
/-- the bound on one step, and on all -/
def bnd (s : Nat) : Nat := min 66 (1 + s * (s + 1))
def bsum : Nat → Nat → Nat
  | 0, _ => 0
  | k + 1, s => bnd s + bsum k (s + 1)
theorem bsum11 : ∀ k, k ≤ 11 → bsum k (12 - (k + 1)) ≤ 374 := by decide
theorem shr_step (A : Aut n ms) {S : List Nat} (hS : IsLot n S) (h2 : 2 ≤ S.length) (hm : ∀ p : Nat × Nat, p.1 < p.2 → p.2 < n → Mg ms p) {s : Nat} (hs : n ≤ S.length + s) : ∃ w, Vd ms w ∧ (img ms w S).length < S.length ∧ w.length ≤ bnd s := by
  match S, hS, h2, hs with
  | x :: y :: l, hS, h2, hs =>
    have hxy : x < y := (List.pairwise_cons.mp hS.asc).1 y List.mem_cons_self
    obtain ⟨r, v, e⟩ := hm (x, y) hxy (hS.2 y (by simp))
    have h1 := img_lt A v hS (by simp) (by simp) (Nat.ne_of_lt hxy) e
    obtain ⟨w, hw⟩ := shr_ex A hS r.length r (Nat.le_refl _) v h1
    refine ⟨w, hw.vd, hw.lt, ?_⟩
    have a := shr_66 A hS hw
    have b := shr_sq A hS hw hs
    unfold bnd
    omega
theorem bnd_mono {s t : Nat} (h : s ≤ t) : bnd s ≤ bnd t := by
  unfold bnd
  have : s * (s + 1) ≤ t * (t + 1) := Nat.mul_le_mul h (by omega)
  omega
theorem bsum_mono : ∀ {k s t : Nat}, s ≤ t → bsum k s ≤ bsum k t
  | 0, _, _, _ => Nat.le_refl _
  | k + 1, s, t, h => Nat.add_le_add (bnd_mono h) (bsum_mono (by omega))
theorem bsum_le : ∀ {k j s : Nat}, bsum j (s + k) ≤ bsum (k + j) s
  | 0, j, s => by rw [Nat.zero_add, Nat.add_zero]; exact Nat.le_refl _
  | k + 1, j, s => by
    rw [show k + 1 + j = (k + j) + 1 by omega, bsum, show s + (k + 1) = (s + 1) + k by omega]
    have := bsum_le (k := k) (j := j) (s := s + 1)
    omega
theorem merge_ex (A : Aut n ms) (hm : ∀ p : Nat × Nat, p.1 < p.2 → p.2 < n → Mg ms p) : ∀ (k s : Nat) (S : List Nat), IsLot n S → 1 ≤ S.length → S.length ≤ k + 1 → n ≤ (k + 1) + s → ∃ w, Vd ms w ∧ (img ms w S).length = 1 ∧ w.length ≤ bsum k s
  | 0, s, S, hS, h1, h2, _ => ⟨[], fun m hm => (by cases hm), (by show S.length = 1; omega), Nat.zero_le _⟩
  | k + 1, s, S, hS, h1, h2, hn => by
    by_cases hk : S.length ≤ k + 1
    · obtain ⟨w, a1, a2, a3⟩ := merge_ex A hm k (s + 1) S hS h1 hk (by omega)
      exact ⟨w, a1, a2, by rw [bsum]; omega⟩
    · have hl : S.length = k + 2 := by omega
      obtain ⟨w, a1, a2, a3⟩ := shr_step A hS (by omega) hm (s := s) (by omega)
      have hne : S ≠ [] := fun e => by rw [e] at h1; cases h1
      have hp := img_pos A a1 hS.2 hne
      obtain ⟨v, b1, b2, b3⟩ := merge_ex A hm k (s + 1) (img ms w S) (img_lot A a1 hS) hp (by omega) (by omega)
      refine ⟨w ++ v, a1.app b1, by rw [img_app]; exact b2, ?_⟩
      rw [List.length_append, bsum]
      omega
theorem merge_row (A : Aut n ms) (hm : ∀ p : Nat × Nat, p.1 < p.2 → p.2 < n → Mg ms p) : ∃ w, Vd ms w ∧ (ro n ms w).length = 1 ∧ w.length ≤ 374 := by
  have h1 := A.n1
  have h12 := A.n12
  obtain ⟨w, a1, a2, a3⟩ := merge_ex A hm (n - 1) 0 (List.range n) (isLot_range A.n12) (by rw [List.length_range]; omega) (by rw [List.length_range]; omega) (by omega)
  refine ⟨w, a1, a2, ?_⟩
  have b1 : bsum (n - 1) 0 ≤ bsum (n - 1) (12 - (n - 1 + 1)) := bsum_mono (by omega)
  have := bsum11 (n - 1) (by omega)
  omega
theorem mg_of_one (A : Aut n ms) {w : List Nat} (v : Vd ms w) (h : (ro n ms w).length = 1) (p : Nat × Nat) (h1 : p.1 < p.2) (h2 : p.2 < n) : Mg ms p := by
  refine ⟨w, v, ?_⟩
  have m1 := (mem_img A v (l := List.range n) (fun x hx => List.mem_range.mp hx) (run ms w p.1)).mpr ⟨p.1, List.mem_range.mpr (by omega), rfl⟩
  have m2 := (mem_img A v (l := List.range n) (fun x hx => List.mem_range.mp hx) (run ms w p.2)).mpr ⟨p.2, List.mem_range.mpr h2, rfl⟩
  obtain ⟨z, hz⟩ := List.length_eq_one_iff.mp h
  have hz' : img ms w (List.range n) = [z] := hz
  rw [hz'] at m1 m2
  rw [List.mem_singleton.mp m1, List.mem_singleton.mp m2]
theorem rising_map : ∀ {l : List (Nat × Nat)}, l.Pairwise plt → rising l = true
  | [], _ => rfl
  | [_], _ => rfl
  | p :: q :: l, h => by
    rw [List.pairwise_cons] at h
    rw [rising, rising_map h.2, Bool.and_true]
    have := h.1 q List.mem_cons_self
    unfold plt at this
    simp [HT.lexLt]
    split <;> omega
theorem math (A : Aut n ms) (h4 : ms.length ≤ 4) : Mth n ms := by
  obtain ⟨s1, s2⟩ := mrg_spec A
  have iff : mrg n ms = none ↔ lapart n ms ≠ [] := by
    constructor
    · intro h q
      obtain ⟨w, v, ho, _⟩ := merge_row A fun p a b => Classical.byContradiction fun hc => by
        have := (lapart_mem A p).mpr ⟨⟨a, b⟩, hc⟩
        rw [q] at this
        cases this
      exact s2 h w v ho
    · intro h
      cases hz : mrg n ms with
      | none => rfl
      | some r =>
        have hr := s1 r hz
        refine absurd ?_ h
        cases hl : lapart n ms with
        | nil => rfl
        | cons p l =>
          obtain ⟨⟨a, b⟩, c⟩ := (lapart_mem A p).mp (by rw [hl]; exact List.mem_cons_self)
          exact absurd (mg_of_one A hr.vd hr.one p a b) c
  refine ⟨apart_eq A, iff, fun h => ⟨?_, shr_none A h4 (s2 h) 4 0 _ all0⟩, fun r h => ?_⟩
  · have hne := iff.mp h
    unfold bookD
    have ht : ((lapart n ms).map pc).map toP = lapart n ms := by
      rw [List.map_map]
      have : toP ∘ pc = id := by
        funext p
        rfl
      rw [this, List.map_id]
    rw [isBook_tup, ht, rising_map (lapart_asc n ms)]
    have e1 : ((lapart n ms).map pc).isEmpty = false := by
      cases hl : lapart n ms with
      | nil => exact absurd hl hne
      | cons p l => rfl
    have e2 : ((lapart n ms).map pc).all (isCouple n) = true := by
      rw [List.all_eq_true]
      intro d hd
      obtain ⟨p, hp, rfl⟩ := List.mem_map.mp hd
      obtain ⟨a, b⟩ := lapart_lt p hp
      show (decide _ && decide _ && decide _) = true
      simp
      omega
    have e3 : closed ms (lapart n ms) = true := by
      unfold closed
      rw [List.all_eq_true]
      intro p hp
      rw [List.all_eq_true]
      intro m hm
      have hm := List.mem_range.mp hm
      obtain ⟨⟨a, b⟩, c⟩ := (lapart_mem A p).mp hp
      obtain ⟨_, _, _, g1, g2⟩ := A.at hm
      have hd : go (ldAt ms m) p.1 ≠ go (ldAt ms m) p.2 := fun e => c ⟨[m], fun x hx => (List.mem_singleton.mp hx) ▸ hm, e⟩
      obtain ⟨b1, b2⟩ := srt_lt hd (go_lt g1 g2 (by omega : p.1 < n)).1 (go_lt g1 g2 b).1
      unfold inL
      rw [led_two A hm (by omega) b hd]
      exact decide_eq_true (List.mem_map.mpr ⟨_, (lapart_mem A _).mpr ⟨⟨b1, b2⟩, fun h => c (mg_step hm (mg_srt.mp h))⟩, rfl⟩)
    rw [e1, e2, e3]
    rfl
  · have hr := s1 r h
    have hl : lapart n ms = [] := by
      by_cases q : lapart n ms = []
      · exact q
      · rw [iff.mpr q] at h; cases h
    obtain ⟨w, v, ho, hw⟩ := merge_row A fun p a b => Classical.byContradiction fun hc => by
      have := (lapart_mem A p).mpr ⟨⟨a, b⟩, hc⟩
      rw [hl] at this
      cases this
    have hs := hr.short w v ho
    refine ⟨by omega, hr.vd, ?_, fun h5 => shr_some A h4 hr 5 0 _ all0 (Nat.zero_le _) (by omega)⟩
    have e : allB ms n r = (List.range n).map (run ms r) := by
      have key : ∀ (r fd : List Nat), r.foldl (fun fd m => fd.map (go (ldAt ms m))) fd = fd.map (run ms r) := fun r => by
        induction r with
        | nil =>
          intro fd
          have : run ms [] = id := rfl
          rw [this, List.map_id]
          rfl
        | cons m r ih =>
          intro fd
          rw [List.foldl_cons, ih, List.map_map]
          rfl
      exact key r _
    rw [e, lot_run A hr.vd]
    exact hr.one
end A8
set_option Elab.async false
set_option linter.all false
set_option maxRecDepth 100000
set_option maxHeartbeats 1000000
/-! shares that add up to one -/
namespace A8
open PySem PySem.Spec PyProof.Rows L2
def tsL : Nat → List (List Int)
  | 0 => [[]]
  | n + 1 => (tsL n).flatMap fun l => [1, 2, 3, 5].map (· :: l)
theorem mem_tsL : ∀ {ts : List Int}, (∀ t ∈ ts, t ∈ tops) → ts ∈ tsL ts.length
  | [], _ => List.mem_singleton.mpr rfl
  | t :: ts, h => by
    refine List.mem_flatMap.mpr ⟨ts, mem_tsL fun x hx => h x (List.mem_cons_of_mem _ hx), List.mem_map.mpr ⟨t, ?_, rfl⟩⟩
    have := h t List.mem_cons_self
    unfold tops at this
    simp at this ⊢
    omega
def sumOkB : Int × Int → List (Int × Int) → Bool
  | _, [] => true
  | p, q :: fs => decide (0 < p.2) && decide (0 < q.2) && decide (p.2 * q.2 < 1073741824) && sumOkB (fadd p q) fs
theorem sumOk_of : ∀ {fs : List (Int × Int)} {p : Int × Int}, sumOkB p fs = true → SumOk p fs
  | [], _, _ => trivial
  | q :: fs, p, h => by
    rw [sumOkB, Bool.and_eq_true, Bool.and_eq_true, Bool.and_eq_true] at h
    exact ⟨of_decide_eq_true h.1.1.1, of_decide_eq_true h.1.1.2, of_decide_eq_true h.1.2, sumOk_of h.2⟩
def shB (ts : List Int) : Bool :=
  let fs := ts.map fun t => frl t ts.sum
  sumOkB (0, 1) fs && decide (fs.foldl fadd (0, 1) = (1, 1)) && fs.all fun f => decide (0 < f.1) && decide (0 < f.2) && decide (gcdI f.1 f.2 = 1)
theorem shB_all : ∀ n, n < 5 → 0 < n → (tsL n).all shB = true := by
  intro n h h0
  have : n = 1 ∨ n = 2 ∨ n = 3 ∨ n = 4 := by omega
  rcases this with rfl | rfl | rfl | rfl <;> decide +kernel
theorem shares_ok {ts : List Int} (h : ∀ t ∈ ts, t ∈ tops) (h0 : 0 < ts.length) (h5 : ts.length < 5) : shB ts = true := List.all_eq_true.mp (shB_all ts.length h5 h0) ts (mem_tsL h)
end A8
set_option Elab.async false
set_option linter.all false
set_option maxRecDepth 100000
set_option maxHeartbeats 1000000
namespace A8
open PySem PySem.Spec PyProof.Rows L2
variable {E : En} (T : Tx E) {f : Fm} {G : List Ki} {e a b c : Expr} {es : List Expr} {pos p : Pos}
theorem lc_lds {α : Type} {Q : List Nat → Prop} {l : List α} {ds : List Dt} (h : LcOut (fun (_ : α) b => b = true) (fun _ d => ∃ z : List Nat, Q z ∧ d = nt z) l ds) : ∃ zs : List (List Nat), zs.length = l.length ∧ ds = zs.map nt ∧ ∀ z ∈ zs, Q z := by
  induction h with
  | nil => exact ⟨[], rfl, rfl, fun z hz => nomatch hz⟩
  | no _ r _ => cases r
  | @yes x l ds d _ _ r ih =>
    obtain ⟨zs, h1, h2, h3⟩ := ih
    obtain ⟨z, hz, rfl⟩ := r
    refine ⟨zs ++ [z], by rw [List.length_append, List.length_append, h1]; rfl, by rw [List.map_append, h2]; rfl, fun y hy => ?_⟩
    rcases List.mem_append.mp hy with q | q
    · exact h3 y q
    · rw [List.mem_singleton.mp q]; exact hz
/-- moves of shares and leads -/
def mvs (ts : List Int) (lds : List (List Nat)) : List Mv := (ts.zip lds).map fun q => ⟨(frl q.1 ts.sum).1, (frl q.1 ts.sum).2, q.2⟩
theorem mvs_d (ts : List Int) (lds : List (List Nat)) : ((ts.map fun t => frp (frl t ts.sum)).zip (lds.map nt)).map (fun q => Dt.tup [q.1, q.2]) = (mvs ts lds).map Mv.d := by
  unfold mvs
  rw [List.map_map, List.zip_map, List.map_map]
  rfl
theorem mvs_tb (ts : List Int) (lds : List (List Nat)) (h : ts.length = lds.length) : (mvs ts lds).map (fun m => (m.t, m.b)) = ts.map fun t => frl t ts.sum := by
  unfold mvs
  rw [List.map_map]
  have : ((fun m : Mv => (m.t, m.b)) ∘ fun q : Int × List Nat => (⟨(frl q.1 ts.sum).1, (frl q.1 ts.sum).2, q.2⟩ : Mv)) = (fun t => frl t ts.sum) ∘ Prod.fst := rfl
  rw [this, ← List.map_map, List.map_fst_zip (by omega)]
theorem sy_mvs {n : Nat} {ts : List Int} {lds : List (List Nat)} (h : ts.length = lds.length) (h0 : 0 < ts.length) (h5 : ts.length < 5) (ht : ∀ t ∈ ts, t ∈ tops) (hn1 : 1 ≤ n) (hn : n ≤ 12) (hl : ∀ l ∈ lds, IsLd n l) : Sy n (mvs ts lds) ∧ (mvs ts lds).length = ts.length := by
  have hlen : (mvs ts lds).length = ts.length := by
    unfold mvs
    rw [List.length_map, List.length_zip]
    omega
  have hs := shares_ok ht h0 h5
  unfold shB at hs
  simp only [Bool.and_eq_true] at hs
  obtain ⟨⟨s1, s2⟩, s3⟩ := hs
  have hld : ∀ m ∈ mvs ts lds, IsLd n m.ld := fun m hm => by
    obtain ⟨q, hq, rfl⟩ := List.mem_map.mp hm
    exact hl _ (List.of_mem_zip hq).2
  refine ⟨⟨⟨hn1, hn, by omega, by omega, hld⟩, fun m hm => ?_, ?_, ?_⟩, hlen⟩
  · have hmem : (m.t, m.b) ∈ (mvs ts lds).map (fun m => (m.t, m.b)) := List.mem_map.mpr ⟨m, hm, rfl⟩
    rw [mvs_tb ts lds h] at hmem
    have := List.all_eq_true.mp s3 _ hmem
    simp only [Bool.and_eq_true, decide_eq_true_eq] at this
    have hl := hld m hm
    exact ⟨this.1.1, this.1.2, this.2, hl.1, hl.2⟩
  · rw [mvs_tb ts lds h]
    exact sumOk_of s1
  · rw [mvs_tb ts lds h]
    exact of_decide_eq_true s2
end A8
set_option Elab.async false
set_option linter.all false
set_option maxRecDepth 100000
set_option maxHeartbeats 1000000
namespace A8
open PySem PySem.Spec PyProof.Rows L2
variable {E : En} (T : Tx E) {f : Fm} {G : List Ki} {e a b c : Expr} {es : List Expr} {pos p : Pos}
section
include T
theorem ok_Lmoves {fa : Addr} {fd : FuncData} (c1 : Cl E 1 "_law_draw" R_draw) (cl : Cl E 2 "_law_leads" R_leads) (ch : Cl E 1 "_law_halved" R_halved) (cp : Cl E 3 "_law_parts" R_parts) (F : Fun E.K "_law_moves" "_law_moves" s_L_moves fa fd) : FnOk E.P E.w E.K E.mg E.base CX0 4 fa fd ["_law_hand_here", "_law_many", "_law_most"] (spG E.K E.C R_Lmoves) := by
  refine fn_ok F c_L_moves (fun ks P ⟨_, _, _, _, _, _, e, _⟩ => by rw [e]; rfl) (fun ks P ⟨n, most, _, _, _, _, e, _⟩ => noOwn_hand [.int n, .int most] e) fun hd ks P h => ?_
  obtain ⟨n, most, h1, h12, m1, m4, rfl, rfl⟩ := h
  let J : List (List Nat) → Prop := fun lds => 1 ≤ lds.length ∧ lds.length ≤ 4 ∧ ∀ l ∈ lds, IsLd n l
  refine sx_cons (s1_setLc 3 (.one 4) [("_law_k", 4)] (fun l : List Nat => ∃ m : Nat, 1 ≤ m ∧ m ≤ 4 ∧ l = List.range m) (fun s : Nat => .int (s : Int)) (fun _ b => b = true) (fun _ d => ∃ z : List Nat, IsLd n z ∧ d = nt z)
    (IX.weaken (ix_range T.b (P := fun j => 1 ≤ j ∧ j ≤ 4) (EX.weaken (ei_add (ED.ii ex_int) (ei_draw c1 (m := most) (ex_hand 0) (ex_v 2) m1 (by omega))) fun k ⟨j, ⟨i1, j1, e1, ⟨q1, q2⟩, e2⟩, e⟩ => ⟨j, ⟨by omega, by omega⟩, e⟩) (fun j ⟨q1, q2⟩ => ⟨by omega, by omega⟩)) fun ds ⟨j, ⟨q1, q2⟩, e⟩ => ⟨List.range j, ⟨j, by omega, by omega, rfl⟩, e⟩)
    (gx_one 4) (fun _ _ _ _ => tsx_nil) (fun l hl x hx _ => EX.weaken (ex_call (R := fun k => ∃ ld', IsLd n ld' ∧ k = .dat (nt ld')) cl (ad_k (ex_hand 0) (ad_cons (ex_v 1) ad_nil)) (fun ks q => ⟨n, h1, h12, q, rfl⟩)) fun k ⟨ld, hl, e⟩ => ⟨_, ⟨ld, hl, rfl⟩, e⟩) (fun l ⟨m, _, hm, e⟩ => by rw [e, List.length_range]; omega)) ?_
  rintro G' ⟨l, ds, ⟨m, hm1, hm4, e⟩, out, rfl⟩
  obtain ⟨lds, l1, rfl, l3⟩ := lc_lds out
  have hJ : J lds := ⟨by rw [l1, e, List.length_range]; exact hm1, by rw [l1, e, List.length_range]; exact hm4, l3⟩
  refine sx_cons (N1 := fun G' => ∃ lds, J lds ∧ G' = [.hand, .dat (.int n), .dat (.int most), .dat (.lst (lds.map nt)), .un, .un]) (s1_if (Rb := fun _ => True) (WX.tx (wx_and (R1 := fun _ => True) (R2 := fun _ => True) (TX.weaken (td_gt (ex_v 1) ex_int) fun _ _ => trivial) (fun _ => wx_and1 (TX.weaken (ti_eq (ei_draw c1 (m := 5) (ex_hand 0) ex_int (by decide) (by decide)) (ED.ii ex_int)) fun _ _ => trivial)) (fun _ => trivial) fun _ _ _ => trivial)) (fun _ => ?_) (fun _ => sx_nil ⟨lds, hJ, rfl⟩)) ?_
  · refine sx_one (S1.weaken (s1_setLc 3 (.one 5) [("_law_one", 5)] (fun l => l = lds) nt (fun _ b => b = true) (fun _ d => ∃ z : List Nat, IsLd n z ∧ d = nt z) (IX.weaken (ix_lst (ex_v 3)) fun ds h => ⟨_, rfl, h⟩) (gx_one 5) (fun _ _ _ _ => tsx_nil)
      (fun l hl x hx _ => EX.weaken (ex_call (R := fun k => ∃ ld', IsLd n ld' ∧ k = .dat (nt ld')) ch (ad_cons (ex_v 5) ad_nil) (fun ks q => ⟨n, x, h1, h12, hJ.2.2 x (hl ▸ hx), q, rfl⟩)) fun k ⟨ld, hl, e⟩ => ⟨_, ⟨ld, hl, rfl⟩, e⟩) (fun l e => by rw [e]; have := hJ.2.1; omega)) ?_)
    rintro G' ⟨l', ds, rfl, out, rfl⟩
    obtain ⟨lds', l1', rfl, l3'⟩ := lc_lds out
    exact ⟨lds', ⟨by rw [l1']; exact hJ.1, by rw [l1']; exact hJ.2.1, l3'⟩, rfl⟩
  rintro G' ⟨lds, ⟨j1, j4, jl⟩, rfl⟩
  refine sx_one (s1_ret (EX.weaken (ex_tupleS (S := fun l => ∃ ms : List Mv, (Sy n ms ∧ ms.length ≤ 4) ∧ l = ms.map Mv.d) T.b (EX.weaken (ex_listzip (R := fun k => ∃ ms : List Mv, (Sy n ms ∧ ms.length ≤ 4) ∧ k = .dat (.lst (ms.map Mv.d))) T.b.list T.b.zip
    (ax_cons (ex_call (R := fun k => ∃ ts : List Int, ts.length = lds.length ∧ (∀ t ∈ ts, t ∈ tops) ∧ k = .dat (.lst (ts.map fun t => frp (frl t ts.sum)))) cp (ad_k (ex_hand 0) (ad_cons (ed_len T.b (ex_v 3) (.lst (lds.map nt))) ad_nil)) (fun ks q => ⟨lds.length, j1, by omega, by rw [q, List.length_map], rfl⟩)) (ax_cons (ex_v 3) ax_nil)) (fun ks hk => ?_)) fun k ⟨ms, h, e⟩ => ⟨_, ⟨ms, h, rfl⟩, e⟩)) fun k ⟨l, ⟨ms, h, e1⟩, e⟩ => ⟨ms, h.1, h.2, by rw [e, e1]; rfl⟩))
  obtain ⟨k1, r1, rfl, ⟨ts, t1, t2, rfl⟩, k2, r2, rfl, rfl, rfl⟩ := hk
  obtain ⟨S, hl⟩ := sy_mvs t1 (by omega) (by omega) t2 h1 h12 jl
  exact ⟨ts.map fun t => frp (frl t ts.sum), lds.map nt, rfl, by rw [List.length_map, List.length_map, t1], by rw [List.length_map]; omega, by rw [List.length_map]; omega, mvs ts lds, ⟨S, by omega⟩, by rw [mvs_d]⟩
end
end A8
set_option Elab.async false
set_option linter.all false
set_option maxRecDepth 100000
set_option maxHeartbeats 1000000
namespace A8
open PySem PySem.Spec PyProof.Rows L2
variable {E : En} (T : Tx E) {f : Fm} {G : List Ki} {e a b c : Expr} {es : List Expr} {pos p : Pos}
def cellsOf (ns : List Int) : List Int := ns.map fun z => (z.natAbs : Int)
def handD (ns : List Int) : List Dt := [.lst ((cellsOf ns).map Dt.int), .int 0, .int 0, .int (1 + ((cellsOf ns).length : Int)), .int 0]
def R_hand (ks : List Ki) (P : Ki → Prop) : Prop := ∃ ns : List Int, ns.length ≤ 63 ∧ ks = [.dat (.lsq (ns.map Dt.int))] ∧ P = fun k => k = .ol (handD ns)
section
include T
theorem ok_hand {fa : Addr} {fd : FuncData} (F : Fun E.K "_law_hand" "_law_hand" s_L_hand fa fd) : FnOk E.P E.w E.K E.mg E.base CX0 1 fa fd ["_law_script"] (spG E.K E.C R_hand) := by
  refine fn_ok F c_L_hand (fun ks P ⟨_, _, e, _⟩ => by rw [e]; rfl) (fun ks P ⟨ns, _, e, _⟩ => noOwn_dat [.lsq (ns.map Dt.int)] e) fun hd ks P h => ?_
  obtain ⟨ns, h63, rfl, rfl⟩ := h
  have hc : cutD (ns.map Dt.int) none (some 63) = ns.map Dt.int := by
    unfold cutD
    have e1 : HT.sIx (ns.map Dt.int).length 0 none = 0 := rfl
    have e2 : HT.sIx (ns.map Dt.int).length (ns.map Dt.int).length (some 63) = (ns.map Dt.int).length := by
      unfold HT.sIx
      simp
      omega
    rw [e1, e2, List.drop_zero, Nat.sub_zero, List.take_length]
  refine sx_setLc 1 (.one 2) [("_law_cell", 2)] ns Dt.int (fun z => .int (z.natAbs : Int)) (ix_lst (ED.is (ed_slLq (i := 63) (ex_v 0) ex_int) (by rw [hc]))) (gx_one 2) (fun z hz => ed_abs T.b (ed_int1 T.b (ex_v 2))) (by omega) ?_
  have e : ns.map (fun z => Dt.int (z.natAbs : Int)) = (cellsOf ns).map Dt.int := by
    unfold cellsOf
    rw [List.map_map]
    rfl
  rw [e]
  refine sx_one (s1_ret (eo_lst (ds := handD ns) (ad_cons (ex_v 1) (ad_cons ex_int (ad_cons ex_int (ad_cons (ED.is (ed_add ex_int (ed_len T.b (ex_v 1) (.lst ((cellsOf ns).map Dt.int)))) (by rw [List.length_map])) (ad_cons ex_int ad_nil)))))))
end
end A8
set_option Elab.async false
set_option linter.all false
set_option maxRecDepth 100000
set_option maxHeartbeats 1000000
/-! sorted(set(t)) of a tuple of couples -/
namespace A8
open PySem PySem.Spec PyProof.Rows L2
open PySem.W (dataLe)
variable {E : En} (T : Tx E) {f : Fm} {G : List Ki} {e a b c : Expr} {es : List Expr} {pos p : Pos}
abbrev Cpl := Nat × Nat
def pI (p : Cpl) : List Int := [(p.1 : Int), (p.2 : Int)]
def am (x : Addr × Cpl) : Addr × List Int := (x.1, pI x.2)
/-- the couples of ps, upwards -/
def plot (ps : List Cpl) : List Cpl := (couplesL 12).filter fun p => decide (p ∈ ps)
theorem pI_inj {p q : Cpl} (h : pI p = pI q) : p = q := by
  unfold pI at h
  have h1 : (p.1 : Int) = q.1 := (List.cons.inj h).1
  have h2 : (p.2 : Int) = q.2 := (List.cons.inj (List.cons.inj h).2).1
  exact Prod.ext (by omega) (by omega)
theorem plot_asc (ps : List Cpl) : (plot ps).Pairwise plt := (couplesL_asc 12).filter _
theorem mem_plot {ps : List Cpl} (h : ∀ p ∈ ps, p.1 < p.2 ∧ p.2 < 12) (p : Cpl) : p ∈ plot ps ↔ p ∈ ps := by
  unfold plot
  rw [List.mem_filter, decide_eq_true_eq]
  exact ⟨fun z => z.2, fun z => ⟨couplesL_mem (h p z).1 (h p z).2, z⟩⟩
theorem sub_am {L : List (Addr × Cpl)} : ∀ {m : Ms}, (∀ z ∈ m, z ∈ L.map am) → ∃ M : List (Addr × Cpl), m = M.map am ∧ ∀ x ∈ M, x ∈ L
  | [], _ => ⟨[], rfl, fun x hx => nomatch hx⟩
  | z :: m, h => by
    obtain ⟨x, hx, rfl⟩ := List.mem_map.mp (h z List.mem_cons_self)
    obtain ⟨M, rfl, hM⟩ := sub_am fun y hy => h y (List.mem_cons_of_mem _ hy)
    refine ⟨x :: M, rfl, fun y hy => ?_⟩
    rcases List.mem_cons.mp hy with rfl | hy
    · exact hx
    · exact hM y hy
theorem keys_am (M : List (Addr × Cpl)) : (M.map am).map (·.2) = (M.map (·.2)).map pI := by
  rw [List.map_map, List.map_map]
  rfl
theorem nodup_cpl {M : List (Addr × Cpl)} (h : ((M.map am).map (·.2)).Nodup) : (M.map (·.2)).Nodup := by
  rw [keys_am] at h
  exact nodup_of_map h
theorem le_am (x y : Addr × Cpl) : dataLe false encM (am x) (am y) = dle (pc x.2) (pc y.2) := by
  have h : ∀ z : Addr × Cpl, encM (am z) = (pc z.2).py := fun z => by
    rw [py_nt]
    rfl
  rw [PySem.W.dataLe_eq]
  show (!PySem.W.dataLt (encM (am y)) (encM (am x))) = _
  rw [h, h]
  rfl
theorem dle_tr : ∀ a b c : Cpl, dle (pc a) (pc b) = true → dle (pc b) (pc c) = true → dle (pc a) (pc c) = true := fun a b c h g => by
  rw [dle_pc] at *
  rcases h with rfl | h
  · exact g
  · rcases g with rfl | g
    · exact .inr h
    · right
      unfold plt at *
      omega
theorem dle_tot : ∀ a b : Cpl, (dle (pc a) (pc b) || dle (pc b) (pc a)) = true := fun a b => by
  rw [Bool.or_eq_true, dle_pc, dle_pc]
  obtain ⟨a1, a2⟩ := a
  obtain ⟨b1, b2⟩ := b
  unfold plt
  simp only [Prod.mk.injEq]
  omega
theorem sort_am {ps : List Cpl} (hps : ∀ p ∈ ps, p.1 < p.2 ∧ p.2 < 12) {M : List (Addr × Cpl)} (hn : (M.map (·.2)).Nodup) (hm : ∀ p, p ∈ M.map (·.2) ↔ p ∈ ps) :
    ∃ M1 : List (Addr × Cpl), (M.map am).mergeSort (dataLe false encM) = M1.map am ∧ M1.map (·.2) = plot ps ∧ ∀ x ∈ M1, x ∈ M := by
  refine ⟨M.mergeSort fun x y => dle (pc x.2) (pc y.2), ?_, ?_, fun x hx => List.mem_mergeSort.mp hx⟩
  · rw [List.map_mergeSort (s := dataLe false encM)]
    intro x _ y _
    exact (le_am x y).symm
  · have pm := List.mergeSort_perm M fun x y => dle (pc x.2) (pc y.2)
    have st := List.pairwise_mergeSort (le := fun x y : Addr × Cpl => dle (pc x.2) (pc y.2)) (fun a b c => dle_tr a.2 b.2 c.2) (fun a b => dle_tot a.2 b.2) M
    have nd := (pm.map (·.2)).nodup_iff.mpr hn
    have asc : ((M.mergeSort fun x y => dle (pc x.2) (pc y.2)).map (·.2)).Pairwise plt := by
      rw [List.nodup_iff_pairwise_ne, List.pairwise_map] at nd
      rw [List.pairwise_map]
      refine (st.and nd).imp fun {a b} h => ?_
      rcases (dle_pc a.2 b.2).mp h.1 with q | q
      · exact absurd q h.2
      · exact q
    refine asc_eq plt (fun x h => by unfold plt at h; omega) (fun x y h g => by unfold plt at *; omega) asc (plot_asc ps) fun p => ?_
    rw [(pm.map (·.2)).mem_iff, hm, mem_plot hps]
theorem couplesL_66 : (couplesL 12).length = 66 := by decide +kernel
theorem few_am {L : List (Addr × Cpl)} (h : ∀ x ∈ L, x.2.1 < x.2.2 ∧ x.2.2 < 12) {m : Ms} (hn : (m.map (·.2)).Nodup) (hs : ∀ z ∈ m, z ∈ L.map am) : m.length ≤ 76 := by
  obtain ⟨M, rfl, hM⟩ := sub_am hs
  have h1 := nodup_len (nodup_cpl hn) (m := couplesL 12) fun p hp => by
    obtain ⟨x, hx, rfl⟩ := List.mem_map.mp hp
    exact couplesL_mem (h x (hM x hx)).1 (h x (hM x hx)).2
  rw [couplesL_66, List.length_map] at h1
  rw [List.length_map]
  omega
theorem rps {F : Hp} : ∀ {ps : List Cpl} {xs : List V}, RpL E.K E.C F xs (ps.map pc) → ∃ L : List (Addr × Cpl), xs = (L.map am).map (fun z => V.ref z.1) ∧ L.map (·.2) = ps ∧ ∀ x ∈ L, F x.1 = some (.tup ((pI x.2).map V.int))
  | [], _, .nil => ⟨[], rfl, rfl, fun x hx => nomatch hx⟩
  | p :: ps, _, .cons r t => by
    obtain ⟨L, rfl, rfl, h3⟩ := rps t
    cases (show Rp E.K E.C F _ (.tup (natsD [p.1, p.2])) from r) with
    | @tup b ys _ h0 r2 =>
      rw [natsD_ints] at r2
      rw [RpL.ints _ r2] at h0
      refine ⟨(b, p) :: L, rfl, rfl, fun x hx => ?_⟩
      rcases List.mem_cons.mp hx with rfl | hx
      · exact h0
      · exact h3 x hx
theorem rps_back {F : Hp} : ∀ {L : List (Addr × Cpl)}, (∀ x ∈ L, F x.1 = some (.tup ((pI x.2).map V.int))) → RpL E.K E.C F ((L.map am).map fun z => V.ref z.1) ((L.map (·.2)).map pc)
  | [], _ => .nil
  | x :: L, h => by
    refine .cons ?_ (rps_back fun y hy => h y (List.mem_cons_of_mem _ hy))
    show Rp E.K E.C F (.ref x.1) (.tup (natsD [x.2.1, x.2.2]))
    rw [natsD_ints]
    exact .tup (h x List.mem_cons_self) (RpL.of_ints (pI x.2))
/-- sorted(set(t)) -/
theorem ed_sortedSetP (B : Bt E.mg) {ps : List Cpl} {q1 q2 : Pos} (ha : ED E f a G (.tup (ps.map pc))) (hps : ∀ p ∈ ps, p.1 < p.2 ∧ p.2 < 12) (hg : GlS f.sc "sorted" := by rfl) (hg2 : GlS f.sc "set" := by rfl) (hs : ∀ env : Env, starEach [a] env = (false, eval a env) :: starEach [] env := by intro _; rfl)
    (hs2 : ∀ env : Env, starEach [.Call (.Name "set" q1) [a] [] q2] env = (false, eval (.Call (.Name "set" q1) [a] [] q2) env) :: starEach [] env := by intro _; rfl) : ED E f (.Call (.Name "sorted" p) [.Call (.Name "set" q1) [a] [] q2] [] pos) G (.lst ((plot ps).map pc)) := fun X hX => by
  have g := hX.gl hg
  have g2 := hX.gl hg2
  have hm : X.mg "sorted" = none ∧ X.mg "set" = none := by
    obtain ⟨C, rfl⟩ := hX.en
    exact ⟨B.sorted, B.set⟩
  have ek : X.K = E.K := by obtain ⟨C, rfl⟩ := hX.en; rfl
  refine pe_w (pe_sortT hX.calm hX.un g hm.1 g2 hm.2 (ha X hX) (hs _) (hs2 _)) ?_
  rw [ek]
  rintro σ H Q ⟨F, w, t, q⟩
  refine ⟨F, w, t, ?_⟩
  rintro k v F1 H1 rfl s1 kv -
  cases (show Rp E.K E.C F1 v (.tup (ps.map pc)) from kv) with
  | @tup l xs _ h0 r =>
    obtain ⟨L, rfl, e2, hL⟩ := rps r
    have hc : ∀ x ∈ L, x.2.1 < x.2.2 ∧ x.2.2 < 12 := fun x hx => hps x.2 (by rw [← e2]; exact List.mem_map.mpr ⟨x, hx, rfl⟩)
    refine ⟨l, L.map am, rfl, SqT.of (s1.wd.ex _ _ h0), fun z hz => ?_, fun m hn hs => few_am hc hn hs, fun m p1 hn sub all hp => ?_⟩
    · obtain ⟨x, hx, rfl⟩ := List.mem_map.mp hz
      exact ⟨SqT.of (s1.wd.ex _ _ (hL x hx)), fun z => nomatch z⟩
    · obtain ⟨M, rfl, hM⟩ := sub_am sub
      obtain ⟨M1, k1, k2, k3⟩ := sort_am hps (nodup_cpl hn) fun p => by
        constructor
        · intro hp
          obtain ⟨x, hx, rfl⟩ := List.mem_map.mp hp
          rw [← e2]
          exact List.mem_map.mpr ⟨x, hM x hx, rfl⟩
        · intro hp
          rw [← e2] at hp
          obtain ⟨x, hx, rfl⟩ := List.mem_map.mp hp
          have h3 := all (am x) (List.mem_map.mpr ⟨x, hx, rfl⟩)
          rw [keys_am] at h3
          obtain ⟨y, hy, e⟩ := List.mem_map.mp h3
          rw [← pI_inj e]
          exact hy
      rw [k1]
      have s2 := Stp.new (o := .lst ((M1.map am).map fun z => V.ref z.1)) s1.wd hp
      have res : RpL E.K E.C F1 ((M1.map am).map fun z => V.ref z.1) ((M1.map (·.2)).map pc) := rps_back fun x hx => hL x (hM x (k3 x hx))
      rw [k2] at res
      exact q (.dat (.lst ((plot ps).map pc))) _ _ _ rfl (s1.trans s2) (Rp.lst upd_same (res.mono s2.e.1)) Fr.dat
/-! ### list(t) != sorted(set(t)) -/
theorem pl_lst (ps : List Cpl) : (Dt.lst (ps.map pc)).pl = true := by
  rw [map_pc, Dt.pl]
  exact pl_nts _
theorem shaped_lst (ps : List Cpl) : SeqAt.shaped (Dt.lst (ps.map pc)).py = true := by
  obtain ⟨h1, h2⟩ := lay_nts (ps.map pl2)
  unfold SeqAt.shaped
  rw [map_pc, Dt.py, PyData.canLay0, h1, PyData.depth, Bool.true_and, decide_eq_true_eq]
  omega
theorem eqv_pcs : ∀ ps qs : List Cpl, PyData.eqvAll (Dt.pyL (ps.map pc)) (Dt.pyL (qs.map pc)) = decide (ps = qs)
  | [], [] => by simp [Dt.pyL, PyData.eqvAll]
  | [], _ :: _ => by simp [Dt.pyL, PyData.eqvAll]
  | _ :: _, [] => by simp [Dt.pyL, PyData.eqvAll]
  | p :: ps, q :: qs => by
    rw [List.map_cons, List.map_cons, Dt.pyL, Dt.pyL, PyData.eqvAll, eqv_pcs ps qs, eqv_nt, Bool.eq_iff_iff, Bool.and_eq_true, decide_eq_true_eq, decide_eq_true_eq, decide_eq_true_eq]
    constructor
    · rintro ⟨h1, h2⟩
      rw [pl2_inj h1, h2]
    · intro h
      obtain ⟨h1, h2⟩ := List.cons.inj h
      exact ⟨by rw [h1], h2⟩
theorem eqv_lst (ps qs : List Cpl) : PyData.eqv (Dt.lst (ps.map pc)).py (Dt.lst (qs.map pc)).py = decide (ps = qs) := by
  rw [Dt.py, Dt.py, PyData.eqv, eqv_pcs]
theorem rising_pw : ∀ {ps : List Cpl}, rising ps = true → ps.Pairwise plt
  | [], _ => .nil
  | [p], _ => List.pairwise_singleton _ _
  | p :: q :: ps, h => by
    rw [rising, Bool.and_eq_true] at h
    have ih := rising_pw h.2
    have h1 : plt p q := by
      have h3 := h.1
      unfold plt
      rw [HT.lexLt_cons] at h3
      by_cases e1 : (p.1 : Int) = q.1
      · rw [if_pos e1, HT.lexLt_cons] at h3
        by_cases e2 : (p.2 : Int) = q.2
        · rw [if_pos e2] at h3
          cases h3
        · rw [if_neg e2, decide_eq_true_eq] at h3
          omega
      · rw [if_neg e1, decide_eq_true_eq] at h3
        omega
    refine List.pairwise_cons.mpr ⟨fun r hr => ?_, ih⟩
    rcases List.mem_cons.mp hr with rfl | hr
    · exact h1
    · have h2 := (List.pairwise_cons.mp ih).1 r hr
      unfold plt at *
      omega
theorem rising_plot {ps : List Cpl} (hps : ∀ p ∈ ps, p.1 < p.2 ∧ p.2 < 12) : decide (ps = plot ps) = rising ps := by
  rw [Bool.eq_iff_iff, decide_eq_true_eq]
  constructor
  · intro h
    rw [h]
    exact rising_map (plot_asc ps)
  · intro h
    exact asc_eq plt (fun x h => by unfold plt at h; omega) (fun x y h g => by unfold plt at *; omega) (rising_pw h) (plot_asc ps) fun p => (mem_plot hps p).symm
end A8
set_option Elab.async false
set_option linter.all false
set_option maxRecDepth 100000
set_option maxHeartbeats 1000000
namespace A8
open PySem PySem.Spec PyProof.Rows L2
variable {E : En} (T : Tx E) {f : Fm} {G : List Ki} {e a b c : Expr} {es : List Expr} {pos p : Pos}
def okE (n : Nat) : Dt → Bool
  | .int i => decide (0 ≤ i ∧ i < (n : Int))
  | _ => false
theorem okE_within (n : Nat) (y : Dt) : okE n y = y.within 0 ((n : Int) - 1) := by
  cases y with
  | int i =>
    show decide (0 ≤ i ∧ i < (n : Int)) = decide (0 ≤ i ∧ i ≤ (n : Int) - 1)
    rw [Bool.eq_iff_iff, decide_eq_true_eq, decide_eq_true_eq]
    omega
  | _ => rfl
theorem couple_two (n : Nat) (y z : Dt) : isCouple n (.tup [y, z]) = (okE n y && okE n z && ltD y z) := by
  rw [isCouple_two, okE_within, okE_within]
theorem not_couple {n : Nat} {d : Dt} (h : ∀ y z, d ≠ .tup [y, z]) : isCouple n d = false := by
  match d, h with
  | .tup [], _ => rfl
  | .tup [x], _ => cases x <;> rfl
  | .tup [x, y], h => exact absurd rfl (h x y)
  | .tup (x :: y :: z :: l), _ => cases x <;> first | rfl | (cases y <;> rfl)
  | .non, _ | .bl _, _ | .int _, _ | .str _, _ | .tuq _, _ | .lst _, _ | .lsq _, _ | .dic, _ | .sys _ _, _ | .rng _ _, _ | .ty _, _ => rfl
theorem book_false {n : Nat} {ms : List Mv} {l : List Dt} {x : Dt} (hx : x ∈ l) (h : isCouple n x = false) : isBook n ms (.tup l) = false := by
  have : l.all (isCouple n) = false := by
    rw [Bool.eq_false_iff]
    intro z
    rw [List.all_eq_true] at z
    rw [z x hx] at h
    cases h
  rw [isBook_tup, this, Bool.and_false, Bool.false_and, Bool.false_and]
theorem closed_eq {ms : List Mv} (ps : List (Nat × Nat)) : closed ms ps = ps.all fun p => ms.all fun m => inL (led m.ld (pl2 p)) ps := by
  unfold closed
  congr 1
  funext p
  rw [Bool.eq_iff_iff, List.all_eq_true, List.all_eq_true]
  constructor
  · intro h m hm
    obtain ⟨i, hi, rfl⟩ := List.getElem_of_mem hm
    have := h i (List.mem_range.mpr hi)
    unfold ldAt at this
    rw [List.getElem?_eq_getElem hi] at this
    exact this
  · intro h i hi
    have hi := List.mem_range.mp hi
    unfold ldAt
    rw [List.getElem?_eq_getElem hi]
    exact h _ (List.getElem_mem hi)
section
include T
theorem ok_Lis_book {fa : Addr} {fd : FuncData} (c1 : Cl E 1 "_law_led" R_led) (F : Fun E.K "_law_is_book" "_law_is_book" s_L_is_book fa fd) : FnOk E.P E.w E.K E.mg E.base CX0 2 fa fd ["_law_many", "_law_moves_here", "_law_thing"] (spG E.K E.C R_Lis_book) := by
  refine fn_ok F c_L_is_book (fun ks P ⟨_, _, _, _, _, e, _⟩ => by rw [e]; rfl) (fun ks P ⟨n, ms, d, _, _, e, _⟩ => noOwn_dat [.int n, moveD ms, d] e) fun hd ks P h => ?_
  obtain ⟨n, ms, d, A, hn, rfl, rfl⟩ := h
  have h12 := A.n12
  have h24 := A.m24
  have hc := hn.cls
  by_cases ht : ∃ l, d = .tup l
  · obtain ⟨l, rfl⟩ := ht
    obtain ⟨hl, hx⟩ := hn.items
    refine sx_cons (N1 := fun G' => G' = [.dat (.int n), .dat (moveD ms), .dat (.tup l), .un, .un, .un, .un] ∧ l ≠ []) (s1_if (WX.tx (wd_or (td_not (td_val (ed_isaTup T.b (ex_v 2) hc))) fun _ => wd_or1 (td_eq (ed_len T.b (ex_v 2) (.tup l)) ex_int))) (fun h => sx_one (s1_ret (ED.is ex_bl ?_))) fun h => sx_nil ⟨rfl, fun z => ?_⟩) ?_
    · cases l with
      | nil => rfl
      | cons x l =>
        simp [Dt.isa, isaC, Dt.cls] at h
        omega
    · rw [z] at h
      simp [Dt.isa, isaC, Dt.cls] at h
    rintro G' ⟨rfl, hne⟩
    refine sx_cons (s1_for (.one 3) l id (fun i G' => (∃ x3 x4 : Ki, G' = [.dat (.int n), .dat (moveD ms), .dat (.tup l), x3, x4, .un, .un]) ∧ (l.take i).all (isCouple n) = true) (by rw [List.map_id]; exact ix_tupT (ex_v 2)) (gx_one 3) ⟨⟨_, _, rfl⟩, rfl⟩ ?_) ?_
    · rintro i x hi G' ⟨⟨x3, x4, rfl⟩, hall⟩
      have hxl := List.mem_of_getElem? hi
      have hnx := hx x hxl
      have hcx := hnx.cls
      have ret : isCouple n x = false → Dt.bl false = .bl (isBook n ms (.tup l)) := fun h => by rw [book_false hxl h]
      by_cases h2 : ∃ m, x = .tup m
      · obtain ⟨m, rfl⟩ := h2
        refine sx_cons (N1 := fun G' => G' = [.dat (.int n), .dat (moveD ms), .dat (.tup l), .dat (.tup m), x4, .un, .un] ∧ m.length = 2) (s1_if (WX.tx (wd_or (td_not (td_val (ed_isaTup T.b (ex_v 3) hcx))) fun _ => wd_or1 (td_ne (ed_len T.b (ex_v 3) (.tup m)) ex_int))) (fun h => sx_one (s1_ret (ED.is ex_bl (ret (not_couple fun y z q => ?_))))) fun h => sx_nil ⟨rfl, ?_⟩) ?_
        · cases q
          simp [Dt.isa, isaC, Dt.cls] at h
        · simp [Dt.isa, isaC, Dt.cls] at h
          omega
        rintro G' ⟨rfl, hm2⟩
        obtain ⟨hml, hmx⟩ := hnx.items
        refine sx_cons (N1 := fun G' => G' = [.dat (.int n), .dat (moveD ms), .dat (.tup l), .dat (.tup m), x4, .un, .un] ∧ m.all (okE n) = true) (s1_if (td_not (td_val (ED.is (ed_all T.b (bs := m.map (okE n)) (ED.is (ed_lc (.one 4) [("_law_end", 4)] m id (fun y => .bl (okE n y)) (by rw [List.map_id]; exact ix_tupT (ex_v 3)) (gx_one 4) (fun y hy => ?_) (by omega)) (by rw [List.map_map]; rfl))) (d' := .bl (m.all (okE n))) (by rw [List.all_map]; rfl)))) (fun h => sx_one (s1_ret (ED.is ex_bl (ret ?_)))) fun h => sx_nil ⟨rfl, by simpa using h⟩) ?_
        · have hcy := (hmx y hy).cls
          refine ED.is (ed_and (y := okE n y) (ed_isaInt T.b (ex_v 4) hcy) fun k1 => ED.is (ed_and (y := okE n y) (ed_not (ed_isaBool T.b (ex_v 4) hcy)) fun k2 => ed_one ?_) (d' := .bl (okE n y)) ?_) ?_
          · cases y with
            | int i => exact ed_chain_lt ex_int (ex_v 4) (ex_v 0)
            | bl i => cases k2
            | _ => cases k1
          · cases y with
            | bl i => rfl
            | int i => rfl
            | _ => cases k1
          · cases y <;> rfl
        · match m, hm2 with
          | [y, z], _ =>
            have h' : (okE n y && okE n z) = false := Bool.and_eq_false_iff.mpr (by simpa using h)
            rw [couple_two, h', Bool.false_and]
        rintro G' ⟨rfl, hok⟩
        match m, hm2 with
        | [y, z], _ =>
          have h' : okE n y = true ∧ okE n z = true := by simpa using hok
          cases y with
          | int i =>
            cases z with
            | int j =>
              refine sx_one (s1_if (td_ge (ed_ixT (ex_v 3) ex_int (x := .int i) rfl) (ed_ixT (ex_v 3) ex_int (x := .int j) rfl)) (fun h => sx_one (s1_ret (ED.is ex_bl (ret ?_)))) fun h => sx_nil ⟨⟨_, _, rfl⟩, ?_⟩)
              · have : j ≤ i := of_decide_eq_true h.symm
                have e : ltD (.int i) (.int j) = false := decide_eq_false (by omega)
                rw [couple_two, e, Bool.and_false]
              · have : ¬ j ≤ i := of_decide_eq_false h.symm
                have e : ltD (.int i) (.int j) = true := decide_eq_true (by omega)
                have e2 : isCouple n (.tup [.int i, .int j]) = true := by
                  rw [couple_two, h'.1, h'.2, e]
                  rfl
                rw [List.take_add_one, hi, List.all_append, hall]
                show (true && ([Dt.tup [.int i, .int j]].all (isCouple n))) = true
                rw [List.all_cons, e2]
                rfl
            | _ => exact absurd h'.2 (by intro q; cases q)
          | _ => exact absurd h'.1 (by intro q; cases q)
      · have hnt : x.isa "tuple" = false := by
          cases x with
          | tup m => exact absurd ⟨m, rfl⟩ h2
          | tuq m => exact absurd rfl (hnx.tuq m)
          | _ => first | rfl | exact absurd rfl hcx
        refine sx_cons (N1 := fun _ => False) (s1_if (WX.tx (wd_or (y := false) (td_not (td_val (ed_isaTup T.b (ex_v 3) hcx))) fun z => by rw [hnt] at z; cases z)) (fun h => sx_one (s1_ret (ED.is ex_bl (ret (not_couple fun y z q => h2 ⟨_, q⟩))))) (fun h => by rw [hnt] at h; cases h)) (fun _ h => h.elim)
    · rintro G' ⟨⟨x3, x4, rfl⟩, hall⟩
      rw [List.take_length] at hall
      obtain ⟨he, hp⟩ := toPs_ok hall
      generalize hps : l.map toP = ps at he hp
      subst he
      have hlen : (ps.map pc).length = ps.length := List.length_map ..
      have hp12 : ∀ p ∈ ps, p.1 < p.2 ∧ p.2 < 12 := fun p hp' => ⟨(hp p hp').1, by have := (hp p hp').2; omega⟩
      have hb : isBook n ms (.tup (ps.map pc)) = (rising ps && closed ms ps) := by
        rw [isBook_tup]
        have h1 : (ps.map pc).isEmpty = false := by
          cases hz : ps.map pc with
          | nil => exact absurd hz hne
          | cons _ _ => rfl
        rw [h1, hall, hps]
        simp
      rw [hb]
      refine sx_cons (N1 := fun G' => G' = [.dat (.int n), .dat (moveD ms), .dat (.tup (ps.map pc)), x3, x4, .un, .un] ∧ rising ps = true) (s1_if (TD.is (td_neD (ed_list T.b (ex_v 2) (.tup (ps.map pc))) (ed_sortedSetP T.b (ex_v 2) hp12) (pl_lst ps) (pl_lst _) (shaped_lst ps) (shaped_lst _)) (b' := !rising ps) (by rw [eqv_lst, rising_plot hp12])) (fun h => sx_one (s1_ret (ED.is ex_bl ?_))) fun h => sx_nil ⟨rfl, by simpa using h⟩) ?_
      · have : rising ps = false := by simpa using h
        rw [this, Bool.false_and]
      rintro G' ⟨rfl, hr⟩
      rw [hr, Bool.true_and, closed_eq]
      refine sx_cons (s1_for (.one 3) ps pc (fun i G' => (∃ x3 x5 x6 : Ki, G' = [.dat (.int n), .dat (moveD ms), .dat (.tup (ps.map pc)), x3, x4, x5, x6]) ∧ ((ps.take i).all fun p => ms.all fun m => inL (led m.ld (pl2 p)) ps) = true) (ix_tupT (ex_v 2)) (gx_one 3) ⟨⟨_, _, _, rfl⟩, rfl⟩ ?_) ?_
      · rintro i q hi G' ⟨⟨x3, x5, x6, rfl⟩, hall2⟩
        have hq := List.mem_of_getElem? hi
        obtain ⟨q1, q2⟩ := hp q hq
        refine sx_one (s1_if (td_not (td_val (ED.is (ed_all T.b (bs := ms.map fun m => inL (led m.ld (pl2 q)) ps) (ED.is (ed_lc (.two 5 6) [("_law_share", 5), ("_law_leads_here", 6)] ms Mv.d (fun m => .bl (inL (led m.ld (pl2 q)) ps)) (ix_tupT (ex_v 1)) (gx_two 5 6) (fun m hm => ?_) (by omega) (fun m _ => ⟨_, _, rfl⟩)) (by rw [List.map_map]; rfl))) (d' := .bl (ms.all fun m => inL (led m.ld (pl2 q)) ps)) (by rw [List.all_map]; rfl)))) (fun h => sx_one (s1_ret (ED.is ex_bl ?_))) fun h => sx_nil ⟨⟨_, _, _, rfl⟩, ?_⟩)
        · obtain ⟨g1, g2⟩ := A.ld m hm
          refine ED.is (ed_in (ls := false) (ed_call c1 (ad_cons (ex_v 6) (ad_cons (ex_v 3) ad_nil)) ⟨n, m.ld, pl2 q, h12, g1, g2, fun x hx => ?_, by unfold pl2; simp, rfl, rfl⟩) (ex_v 2) holdT (pl_nt _) (by rw [map_pc]; exact pl_nts _) (shaped_nt _) (by rw [map_pc]; exact shaped_nts _)) (by rw [inD_led])
          unfold pl2 at hx
          simp at hx
          omega
        · have h' : (ms.all fun m => inL (led m.ld (pl2 q)) ps) = false := by
            have := congrArg (! ·) h
            simpa using this.symm
          have : (ps.all fun p => ms.all fun m => inL (led m.ld (pl2 p)) ps) = false := by
            rw [Bool.eq_false_iff]
            intro z
            rw [List.all_eq_true] at z
            rw [z q hq] at h'
            cases h'
          rw [this]
        · have h' : (ms.all fun m => inL (led m.ld (pl2 q)) ps) = true := by
            have := congrArg (! ·) h
            simpa using this.symm
          rw [List.take_add_one, hi, List.all_append, hall2]
          show (true && ([q].all fun p => ms.all fun m => inL (led m.ld (pl2 p)) ps)) = true
          rw [List.all_cons, h']
          rfl
      · rintro G' ⟨⟨x3, x5, x6, rfl⟩, hall2⟩
        rw [List.take_length] at hall2
        rw [hall2]
        exact sx_one (s1_ret ex_bl)
  · have hnt : d.isa "tuple" = false := by
      cases d with
      | tup l => exact absurd ⟨l, rfl⟩ ht
      | tuq l => exact absurd rfl (hn.tuq l)
      | _ => first | rfl | exact absurd rfl hc
    have hi : isBook n ms d = false := by
      cases d with
      | tup l => exact absurd ⟨l, rfl⟩ ht
      | _ => rfl
    rw [hi]
    refine sx_cons (N1 := fun _ => False) (s1_if (WX.tx (wd_or (y := false) (td_not (td_val (ed_isaTup T.b (ex_v 2) hc))) fun z => by rw [hnt] at z; cases z)) (fun h => sx_one (s1_ret ex_bl)) (fun h => by rw [hnt] at h; cases h)) (fun _ h => h.elim)
end
end A8
set_option Elab.async false
set_option linter.all false
set_option maxRecDepth 100000
set_option maxHeartbeats 1000000
namespace A8
open PySem PySem.Spec PyProof.Rows L2
variable {E : En} (T : Tx E) {f : Fm} {G : List Ki} {e a b c : Expr} {es : List Expr} {pos p : Pos}
theorem cells_nn (ns : List Int) : ∀ z ∈ cellsOf ns, 0 ≤ z := fun z hz => by
  obtain ⟨x, _, rfl⟩ := List.mem_map.mp hz
  omega
/-- from here on the list at slot 1 is the hand -/
theorem sx_hand {N : List Str} {sc : Scope} {fn : Str → Bool} {k : Nat} {sts : List Stmt} {ns : List Int} {d0 : Dt} (h63 : ns.length ≤ 63) (h : ∀ hd, SX E ⟨N, sc, fn, k, hd⟩ sts [.un, .hand, .un, .un] (fun _ => A8.one (.bl true) (.dat .non)) (fun k _ => A8.one (.bl true) k)) :
    SX E ⟨N, sc, fn, k, none⟩ sts [.dat d0, .ol (handD ns), .un, .un] (fun _ => A8.one (.bl true) (.dat .non)) (fun k _ => A8.one (.bl true) k) := fun X hX => by
  refine ⟨fun pins s σ H D I q => ?_⟩
  obtain ⟨B, F, o, n, r⟩ := q
  obtain ⟨v, g1, a, xs, rfl, g2, g3, g4⟩ := o.ty.at (i := 1) rfl (fun z => nomatch z)
  obtain ⟨f1, f2⟩ := o.own 1 _ a rfl True.intro g1
  have hlen := o.ty.len
  cases g3 with
  | cons r0 g3 =>
  cases g3 with
  | cons r1 g3 =>
  cases g3 with
  | cons r2 g3 =>
  cases g3 with
  | cons r3 g3 =>
  cases g3 with
  | cons r4 g3 =>
  cases g3
  cases r1
  cases r2
  cases r3
  cases r4
  cases r0 with
  | @lst c ys _ h5 h6 =>
    rw [RpL.ints _ h6] at h5
    have l63 : (cellsOf ns).length ≤ 63 := by
      unfold cellsOf
      rw [List.length_map]
      exact h63
    have w : Wd (some (a, c)) F H := ⟨o.wd.ex, fun p' c' e => by
      cases e
      exact ⟨f1, c, ⟨0, 0, 1 + ((cellsOf ns).length : Int), 0, g2, by omega, by omega, by omega, by omega, by omega⟩, cellsOf ns, h5, cells_nn ns⟩⟩
    have ok1 : Ok E (some (a, c)) ⟨H, F, F⟩ [.un, .hand, .un, .un] σ F H := by
      refine ⟨Stp.refl w, ⟨hlen, fun i k e => ?_⟩, A8.Ex.refl _, fun i k a e z => ?_, fun i k e => ?_, fun i j k k' a e e' z z' => ?_⟩
      · match i, e with
        | 0, e => cases e; exact .inl rfl
        | 1, e => cases e; exact .inr ⟨_, g1, a, c, rfl, rfl⟩
        | 2, e => cases e; exact .inl rfl
        | 3, e => cases e; exact .inl rfl
      · have hm := List.mem_of_getElem? e
        simp only [List.mem_cons, List.not_mem_nil, or_false] at hm
        rcases hm with rfl | rfl | rfl | rfl <;> exact z.elim
      · have hm := List.mem_of_getElem? e
        simp only [List.mem_cons, List.not_mem_nil, or_false] at hm
        rcases hm with rfl | rfl | rfl | rfl <;> exact True.intro
      · have hm := List.mem_of_getElem? e
        simp only [List.mem_cons, List.not_mem_nil, or_false] at hm
        rcases hm with rfl | rfl | rfl | rfl <;> exact z.elim
    refine (h (some (a, c)) X ⟨hX.en, hX.calm, hX.N, hX.sc, hX.fn, hX.room, hX.nx, hX.nd⟩).run pins s σ H D I ⟨⟨H, F, F⟩, F, ok1, fun G' σ' F' H' hn => (nomatch hn), fun k v G' σ' F' H' pk o' kv fr => ?_⟩
    have st : Stp none B.F0 B.H0 F' H' := by
      refine ⟨fun x u _ e => ?_, ⟨o.st.e.1.trans o'.st.e.1, fun x u e => ?_⟩, o'.st.wd.ex, fun _ _ e => nomatch e⟩
      · have e1 := o.st.b x u (fun _ _ e => nomatch e) e
        have ne : x ≠ a := fun z => by rw [z, f2] at e; cases e
        exact o'.st.b x u (fun p' c' e => by cases e; exact ne) e1
      · have e1 := o.st.b x u (fun _ _ e => nomatch e) e
        exact (o'.st.e.2 x u e1).trans (o.st.e.2 x u e)
    have ok2 : Ok E none B (List.replicate σ'.length .un) σ' F' H' := by
      refine ⟨st, ⟨List.length_replicate, fun i k e => .inl (List.eq_of_mem_replicate (List.mem_of_getElem? e))⟩, o.fl.trans o'.st.e.1, fun i k a e z => ?_, fun i k e => ?_, fun i j k k' a e e' z z' => ?_⟩
      · rw [List.eq_of_mem_replicate (List.mem_of_getElem? e)] at z
        exact z.elim
      · rw [List.eq_of_mem_replicate (List.mem_of_getElem? e)]
        exact True.intro
      · rw [List.eq_of_mem_replicate (List.mem_of_getElem? e)] at z
        exact z.elim
    cases pk
    exact r _ v _ σ' F' H' rfl ok2 kv Fr.dat
def spTop (K : PySem.W.Frag) : Sp := fun vs H Q _ => ∃ (a : Addr) (ns : List Int), vs = [.ref a] ∧ SqL K H a (ns.map V.int) ∧ ns.length ≤ 63 ∧ ∀ H', Q (.bl true) H'
section
include T
theorem ok_law {fa : Addr} {fd : FuncData} (HM : ∀ n ms, Sy n ms → ms.length ≤ 4 → Mth n ms) (ch : Cl E 1 "_law_hand" R_hand) (c1 : Cl E 1 "_law_draw" R_draw) (co : Cl E 7 "_law_one_right" R_one_right) (cm : Cl E 4 "_law_moves" R_Lmoves) (ct : Cl E 3 "_law_turned" R_turned) (F : Fun E.K "law" "law" s_law fa fd) :
    FnOk E.P E.w E.K E.mg E.base CX0 9 fa fd ["_law_script"] (spTop E.K) := by
  refine F.ok c_law (fun vs H Q XE ⟨a, ns, e, _⟩ => by rw [e]; rfl) (fun cdv A outer s H vs Q Ex hr h => ?_)
  obtain ⟨a, ns, rfl, hS, hl, q⟩ := h
  have body : SX E ⟨n_law, defScope s_law, fun _ => true, 8, none⟩ (defBody s_law) [.dat (.lsq (ns.map Dt.int)), .un, .un, .un] (fun _ => A8.one (.bl true) (.dat .non)) (fun k _ => A8.one (.bl true) k) := by
    refine sx_cons (s1_set 1 (ex_call (R := fun k => k = .ol (handD ns)) ch (ad_cons (ex_v 0) ad_nil) (fun ks e => ⟨ns, hl, e, rfl⟩)) (fun k e => by rw [e]; trivial)) ?_
    rintro G' ⟨k, rfl, rfl⟩
    exact sx_hand hl fun hd => law_rest T hd HM c1 co cm ct
  refine ⟨_, body _ ⟨⟨E.C, rfl⟩, rfl, rfl, rfl, rfl, hr, rfl, c_law.nd⟩, ?_⟩
  have rs : Rp E.K E.C H (.ref a) (.lsq (ns.map Dt.int)) := .lsq hS (RpL.of_ints ns)
  have w : Wd none H H := ⟨A8.Ex.refl _, fun _ _ e => nomatch e⟩
  refine ⟨⟨H, H, H⟩, H, ⟨Stp.refl w, start_ty (N := n_law) (ks := [.dat (.lsq (ns.map Dt.int))]) (.cons rs .nil) (by show 1 ≤ 4; decide), A8.Ex.refl _, fun i k a e z => ?_, fun i k e => ?_, fun i j k k' a e e' z z' => ?_⟩, fun G' σ' F' H' hn => (nomatch hn), fun k v G' σ' F' H' pk o kv fr => ?_⟩
  · have hm := List.mem_of_getElem? e
    simp only [List.mem_cons, List.not_mem_nil, or_false] at hm
    rcases hm with rfl | rfl | rfl | rfl <;> exact z.elim
  · have hm := List.mem_of_getElem? e
    simp only [List.mem_cons, List.not_mem_nil, or_false] at hm
    rcases hm with rfl | rfl | rfl | rfl <;> exact True.intro
  · have hm := List.mem_of_getElem? e
    simp only [List.mem_cons, List.not_mem_nil, or_false] at hm
    rcases hm with rfl | rfl | rfl | rfl <;> exact z.elim
  · cases pk
    rw [ko_bl kv]
    exact q H'
end
end A8
set_option Elab.async false
set_option linter.all false
set_option maxRecDepth 100000
set_option maxHeartbeats 4000000
/-! what the top has left, the promises of all (printed by gen/gen29.py) -/
namespace A8
open PySem PySem.Spec PyProof.Rows L2
structure DefAt (K : PySem.W.Frag) (qual : Str) (st : Stmt) (x : Str) (f : Addr) : Prop where
  l : ∃ (oc : Value) (od an : Option Addr) (kV dc pm cd ct : Value) (sl : Array (Option Value)), K.lookup f = some ⟨oc, od, .func (PySem.W.fnOf x qual (defArgs st) (defBody st) (defScope st) .none kV dc pm an cd ct), sl⟩ ∧ PySem.W.codeIn K cd qual = true
  k : PySem.W.keepIn K (.ref f) = true
abbrev TopAt (K : PySem.W.Frag) (st : Stmt) (x : Str) : Prop := ∃ f, PySem.W.nsIn K mainGlobals x = some (some (.ref f)) ∧ DefAt K x st x f
theorem DefAt.fn {K : PySem.W.Frag} {qual x : Str} {st : Stmt} {f : Addr} (d : DefAt K qual st x f) : ∃ fd, Fun K x qual st f fd := by
  obtain ⟨oc, od, an, kV, dc, pm, cd, ct, sl, l, c⟩ := d.l
  exact ⟨_, fun_mk l c d.k⟩
theorem TopAt.fn {K : PySem.W.Frag} {mg : Str → Option Value} {h : Heap} {st : Stmt} {x : Str} (X : K.In h) (G : h.Ns mainGlobals mg) (d : TopAt K st x) : ∃ f fd, mg x = some (.ref f) ∧ Fun K x x st f fd := by
  obtain ⟨f, a, d⟩ := d
  obtain ⟨fd, F⟩ := d.fn
  exact ⟨f, fd, PySem.W.mg_of X G a, F⟩
theorem TopAt.of {K : PySem.W.Frag} {st : Stmt} {x : Str} {f : Addr} {oc : Value} {od an : Option Addr} {kV dc pm cd ct : Value} {sl : Array (Option Value)} (a : PySem.W.nsIn K mainGlobals x = some (some (.ref f)))
    (l : K.lookup f = some ⟨oc, od, .func (PySem.W.fnOf x x (defArgs st) (defBody st) (defScope st) .none kV dc pm an cd ct), sl⟩) (c : PySem.W.codeIn K cd x = true) (k : PySem.W.keepIn K (.ref f) = true) : TopAt K st x := ⟨f, a, ⟨oc, od, an, kV, dc, pm, cd, ct, sl, l, c⟩, k⟩
structure SysAt (K : PySem.W.Frag) (C : Addr) : Prop where
  a : PySem.W.nsIn K mainGlobals "System" = some (some (.ref C))
  pg : PySem.W.plainGet K C Str.empty = true
  hd : PySem.W.hasDictIn K C = true
  po : PySem.W.plainOver K C = true
  sa : PySem.W.findIn K (.ref C) "__setattr__" = some (some (.builtin "object.__setattr__"))
  mks : PySem.W.makesIn K C = true
  kc : PySem.W.keepIn K (.ref C) = true
  nM : PySem.W.findIn K (.ref C) "many" = some none
  nV : PySem.W.findIn K (.ref C) "moves" = some none
  ini : ∃ f, PySem.W.findIn K (.ref C) "__init__" = some (some (.ref f)) ∧ PySem.W.isFn K (.ref f) = true ∧ DefAt K "System.__init__" s_System_init "__init__" f
theorem SysAt.of {K : PySem.W.Frag} {C f : Addr} {oc : Value} {od an : Option Addr} {kV dc pm cd ct : Value} {sl : Array (Option Value)} (a : PySem.W.nsIn K mainGlobals "System" = some (some (.ref C))) (pg : PySem.W.plainGet K C Str.empty = true) (hd : PySem.W.hasDictIn K C = true) (po : PySem.W.plainOver K C = true)
    (sa : PySem.W.findIn K (.ref C) "__setattr__" = some (some (.builtin "object.__setattr__"))) (mk : PySem.W.makesIn K C = true) (kc : PySem.W.keepIn K (.ref C) = true) (nM : PySem.W.findIn K (.ref C) "many" = some none) (nV : PySem.W.findIn K (.ref C) "moves" = some none)
    (i : PySem.W.findIn K (.ref C) "__init__" = some (some (.ref f))) (j : PySem.W.isFn K (.ref f) = true) (l : K.lookup f = some ⟨oc, od, .func (PySem.W.fnOf "__init__" "System.__init__" (defArgs s_System_init) (defBody s_System_init) (defScope s_System_init) .none kV dc pm an cd ct), sl⟩)
    (c : PySem.W.codeIn K cd "System.__init__" = true) (k : PySem.W.keepIn K (.ref f) = true) : ∃ C, SysAt K C := ⟨C, a, pg, hd, po, sa, mk, kc, nM, nV, f, i, j, ⟨oc, od, an, kV, dc, pm, cd, ct, sl, l, c⟩, k⟩
abbrev PairAt (K : PySem.W.Frag) (x : Str) (i j : Int) : Prop := ∃ (a : Addr) (od : Option Addr) (its : Array Value) (n : Nat) (sl : Array (Option Value)) (t u : Tok), PySem.W.nsIn K mainGlobals x = some (some (.ref a)) ∧ K.lookup a = some ⟨.type "tuple", od, .seq its n, sl⟩ ∧ its.toList = [.int i t, .int j u]
theorem PairAt.of {K : PySem.W.Frag} {x : Str} {i j : Int} {a : Addr} {od : Option Addr} {its : Array Value} {n : Nat} {sl : Array (Option Value)} {t u : Tok} (h1 : PySem.W.nsIn K mainGlobals x = some (some (.ref a))) (h2 : K.lookup a = some ⟨.type "tuple", od, .seq its n, sl⟩) (h3 : its.toList = [.int i t, .int j u]) : PairAt K x i j := ⟨a, od, its, n, sl, t, u, h1, h2, h3⟩
theorem PairAt.mk' {K : PySem.W.Frag} {mg : Str → Option Value} {h : Heap} {x : Str} {i j : Int} (X : K.In h) (G : h.Ns mainGlobals mg) (d : PairAt K x i j) : ∃ a, mg x = some (.ref a) ∧ ∀ F, SqT K F a [.int i, .int j] := by
  obtain ⟨a, od, its, n, sl, t, u, h1, h2, h3⟩ := d
  refine ⟨a, PySem.W.mg_of X G h1, fun F => .inr ⟨_, its, n, h2, rfl, rfl, ?_, ?_⟩⟩
  · rw [← Array.length_toList, h3, sizeLine_eq]
    show 2 ≤ _
    decide
  · rw [h3]
    exact .cons ⟨t, rfl⟩ (.cons ⟨u, rfl⟩ .nil)
abbrev IntAt (K : PySem.W.Frag) (x : Str) (i : Int) : Prop := ∃ t : Tok, PySem.W.nsIn K mainGlobals x = some (some (.int i t))
theorem IntAt.of {K : PySem.W.Frag} {x : Str} {i : Int} {t : Tok} (h : PySem.W.nsIn K mainGlobals x = some (some (.int i t))) : IntAt K x i := ⟨t, h⟩
abbrev NoAt (K : PySem.W.Frag) (x : Str) : Prop := PySem.W.nsIn K mainGlobals x = some none
structure TopOk (K : PySem.W.Frag) : Prop where
  isi : TopAt K s_is_integer "is_integer"
  isw : TopAt K s_is_within "is_within"
  arn : TopAt K s_are_numbers "are_numbers"
  ris : TopAt K s_is_rising "is_rising"
  div : TopAt K s_divisor_of "divisor_of"
  fra : TopAt K s_fraction "fraction"
  isf : TopAt K s_is_fraction "is_fraction"
  plu : TopAt K s_plus "plus"
  sum : TopAt K s_sum_of "sum_of"
  iss : TopAt K s_is_share "is_share"
  ism : TopAt K s_is_move "is_move"
  chk : TopAt K s_check_row "check_row"
  alb : TopAt K s_all_behind "all_behind"
  lea : TopAt K s_led_all "led_all"
  lot : TopAt K s_lot_of "lot_of"
  ltl : TopAt K s_lot_led "lot_led"
  mrg : TopAt K s_merging_row "merging_row"
  cpl : TopAt K s_couple_led "couple_led"
  alc : TopAt K s_all_couples "all_couples"
  apt : TopAt K s_apart_there "apart_there"
  apa : TopAt K s_apart "apart"
  isc : TopAt K s_is_couple "is_couple"
  isb : TopAt K s_is_book "is_book"
  Lhand : TopAt K s_L_hand "_law_hand"
  Ldraw : TopAt K s_L_draw "_law_draw"
  Lany : TopAt K s_L_any "_law_any"
  Lis : TopAt K s_L_is "_law_is"
  Llow : TopAt K s_L_low "_law_low"
  Lparts : TopAt K s_L_parts "_law_parts"
  Lleads : TopAt K s_L_leads "_law_leads"
  Lhalved : TopAt K s_L_halved "_law_halved"
  Lmoves : TopAt K s_L_moves "_law_moves"
  Lled : TopAt K s_L_led "_law_led"
  Lmerging : TopAt K s_L_merging "_law_merging"
  Lcouples : TopAt K s_L_couples "_law_couples"
  Lapart : TopAt K s_L_apart "_law_apart"
  Lis_book : TopAt K s_L_is_book "_law_is_book"
  Lnested : TopAt K s_L_nested "_law_nested"
  Lshortest : TopAt K s_L_shortest "_law_shortest"
  Lgrown : TopAt K s_L_grown "_law_grown"
  Lbooks : TopAt K s_L_books "_law_books"
  Lturned : TopAt K s_L_turned "_law_turned"
  Lone : TopAt K s_L_one_right "_law_one_right"
  Llaw : TopAt K s_law "law"
  C : ∃ C, SysAt K C
  zero : PairAt K "ZERO" 0 1
  one : PairAt K "ONE" 1 1
  mS : IntAt K "MOST_STATES" 12
  mM : IntAt K "MOST_MOVES" 24
  mR : IntAt K "MOST_ROW" 400
  z_len : NoAt K "len"
  z_isinstance : NoAt K "isinstance"
  z_int : NoAt K "int"
  z_bool : NoAt K "bool"
  z_tuple : NoAt K "tuple"
  z_list : NoAt K "list"
  z_all : NoAt K "all"
  z_any : NoAt K "any"
  z_sum : NoAt K "sum"
  z_range : NoAt K "range"
  z_enumerate : NoAt K "enumerate"
  z_zip : NoAt K "zip"
  z_abs : NoAt K "abs"
  z_min : NoAt K "min"
  z_max : NoAt K "max"
  z_sorted : NoAt K "sorted"
  z_set : NoAt K "set"
theorem TopOk.bt {K : PySem.W.Frag} {mg : Str → Option Value} {h : Heap} (X : K.In h) (G : h.Ns mainGlobals mg) (t : TopOk K) : Bt mg where
  len := PySem.W.mg_none_of X G t.z_len
  isinstance := PySem.W.mg_none_of X G t.z_isinstance
  int := PySem.W.mg_none_of X G t.z_int
  bool := PySem.W.mg_none_of X G t.z_bool
  tuple := PySem.W.mg_none_of X G t.z_tuple
  list := PySem.W.mg_none_of X G t.z_list
  all := PySem.W.mg_none_of X G t.z_all
  any := PySem.W.mg_none_of X G t.z_any
  sum := PySem.W.mg_none_of X G t.z_sum
  range := PySem.W.mg_none_of X G t.z_range
  enumerate := PySem.W.mg_none_of X G t.z_enumerate
  zip := PySem.W.mg_none_of X G t.z_zip
  abs := PySem.W.mg_none_of X G t.z_abs
  min := PySem.W.mg_none_of X G t.z_min
  max := PySem.W.mg_none_of X G t.z_max
  sorted := PySem.W.mg_none_of X G t.z_sorted
  set := PySem.W.mg_none_of X G t.z_set
theorem all_mk {P : Program} {w : World} {K : PySem.W.Frag} {h : Heap} {mg : Str → Option Value} {fa : Addr} (X : K.In h) (G : h.Ns mainGlobals mg) (hfa : mg "law" = some (.ref fa)) (t : TopOk K) :
    ∃ fd : FuncData, (∀ (s : Shared) (v : Value), BindsTo s fd ⟨[v], []⟩ [("_law_script", v)]) ∧ ∀ base : Heap, K.In base → base.Ns mainGlobals mg → FnOk P w K mg base CX0 9 fa fd ["_law_script"] (spTop K) := by
  obtain ⟨C, c⟩ := t.C
  obtain ⟨fI, iA, iF, iD⟩ := c.ini
  obtain ⟨fdI, FI⟩ := iD.fn
  have bI : L2.Binds K fdI ["self", "many", "moves"] [] := FI.binds fun _ _ _ _ _ _ us hl => match us, hl with | [_, _, _], _ => rfl
  obtain ⟨fL, aL, dL⟩ := t.Llaw
  obtain ⟨oc, od, an, kV, dc, pm, cd, ct, sl, lL, cL⟩ := dL.l
  have e := hfa.symm.trans (PySem.W.mg_of X G aL)
  cases e
  have FL := fun_mk (st := s_law) lL cL dL.k
  refine ⟨PySem.W.fnOf "law" "law" (defArgs s_law) (defBody s_law) (defScope s_law) .none kV dc pm an cd ct, fun s v => .of_eq rfl, fun base _ _ => ?_⟩
  let E : En := ⟨P, w, K, mg, base, C⟩
  have T : Tx E := { b := t.bt X G, cl := ⟨c.pg, c.hd, c.po, c.sa⟩, nMany := c.nM, nMoves := c.nV, mgC := PySem.W.mg_of X G c.a, zero := t.zero.mk' X G, one := t.one.mk' X G, mStates := t.mS.imp fun _ q => PySem.W.mg_of X G q, mMoves := t.mM.imp fun _ q => PySem.W.mg_of X G q, mRow := t.mR.imp fun _ q => PySem.W.mg_of X G q }
  obtain ⟨f_isi, fd_isi, m_isi, F_isi⟩ := t.isi.fn X G
  have b_isi : L2.Binds E.K fd_isi ["thing"] [] := F_isi.binds fun _ _ _ _ _ _ us hl => match us, hl with | [_], _ => rfl
  have c_isi : Cl E 1 "is_integer" R_is_integer := Fun.cl F_isi (ok_is_integer T  F_isi) m_isi b_isi
  obtain ⟨f_isw, fd_isw, m_isw, F_isw⟩ := t.isw.fn X G
  have b_isw : L2.Binds E.K fd_isw ["thing", "least", "most"] [] := F_isw.binds fun _ _ _ _ _ _ us hl => match us, hl with | [_, _, _], _ => rfl
  have c_isw : Cl E 2 "is_within" R_is_within := Fun.cl F_isw (ok_is_within T c_isi F_isw) m_isw b_isw
  obtain ⟨f_arn, fd_arn, m_arn, F_arn⟩ := t.arn.fn X G
  have b_arn : L2.Binds E.K fd_arn ["thing", "most_many", "most"] [] := F_arn.binds fun _ _ _ _ _ _ us hl => match us, hl with | [_, _, _], _ => rfl
  have c_arn : Cl E 3 "are_numbers" R_are_numbers := Fun.cl F_arn (ok_are_numbers T c_isw F_arn) m_arn b_arn
  obtain ⟨f_ris, fd_ris, m_ris, F_ris⟩ := t.ris.fn X G
  have b_ris : L2.Binds E.K fd_ris ["things"] [] := F_ris.binds fun _ _ _ _ _ _ us hl => match us, hl with | [_], _ => rfl
  have c_ris : Cl E 1 "is_rising" R_is_rising := Fun.cl F_ris (ok_is_rising T  F_ris) m_ris b_ris
  obtain ⟨f_div, fd_div, m_div, F_div⟩ := t.div.fn X G
  have b_div : L2.Binds E.K fd_div ["one", "other"] [] := F_div.binds fun _ _ _ _ _ _ us hl => match us, hl with | [_, _], _ => rfl
  have c_div : Cl E 1 "divisor_of" R_divisor_of := Fun.cl F_div (ok_divisor_of T  F_div) m_div b_div
  obtain ⟨f_fra, fd_fra, m_fra, F_fra⟩ := t.fra.fn X G
  have b_fra : L2.Binds E.K fd_fra ["top", "bottom"] [] := F_fra.binds fun _ _ _ _ _ _ us hl => match us, hl with | [_, _], _ => rfl
  have c_fra : Cl E 2 "fraction" R_fraction := Fun.cl F_fra (ok_fraction T c_div F_fra) m_fra b_fra
  obtain ⟨f_isf, fd_isf, m_isf, F_isf⟩ := t.isf.fn X G
  have b_isf : L2.Binds E.K fd_isf ["thing"] [] := F_isf.binds fun _ _ _ _ _ _ us hl => match us, hl with | [_], _ => rfl
  have c_isf : Cl E 2 "is_fraction" R_is_fraction := Fun.cl F_isf (ok_is_fraction T c_isi c_div F_isf) m_isf b_isf
  obtain ⟨f_plu, fd_plu, m_plu, F_plu⟩ := t.plu.fn X G
  have b_plu : L2.Binds E.K fd_plu ["one", "other"] [] := F_plu.binds fun _ _ _ _ _ _ us hl => match us, hl with | [_, _], _ => rfl
  have c_plu : Cl E 3 "plus" R_plus := Fun.cl F_plu (ok_plus T c_fra F_plu) m_plu b_plu
  obtain ⟨f_sum, fd_sum, m_sum, F_sum⟩ := t.sum.fn X G
  have b_sum : L2.Binds E.K fd_sum ["numbers"] [] := F_sum.binds fun _ _ _ _ _ _ us hl => match us, hl with | [_], _ => rfl
  have c_sum : Cl E 4 "sum_of" R_sum_of := Fun.cl F_sum (ok_sum_of T c_plu F_sum) m_sum b_sum
  obtain ⟨f_iss, fd_iss, m_iss, F_iss⟩ := t.iss.fn X G
  have b_iss : L2.Binds E.K fd_iss ["thing"] [] := F_iss.binds fun _ _ _ _ _ _ us hl => match us, hl with | [_], _ => rfl
  have c_iss : Cl E 3 "is_share" R_is_share := Fun.cl F_iss (ok_is_share T c_isf F_iss) m_iss b_iss
  obtain ⟨f_ism, fd_ism, m_ism, F_ism⟩ := t.ism.fn X G
  have b_ism : L2.Binds E.K fd_ism ["thing", "many"] [] := F_ism.binds fun _ _ _ _ _ _ us hl => match us, hl with | [_, _], _ => rfl
  have c_ism : Cl E 4 "is_move" R_is_move := Fun.cl F_ism (ok_is_move T c_iss c_arn F_ism) m_ism b_ism
  obtain ⟨f_chk, fd_chk, m_chk, F_chk⟩ := t.chk.fn X G
  have b_chk : L2.Binds E.K fd_chk ["system", "row"] [] := F_chk.binds fun _ _ _ _ _ _ us hl => match us, hl with | [_, _], _ => rfl
  have c_chk : Cl E 4 "check_row" R_check_row := Fun.cl F_chk (ok_check_row T c_arn F_chk) m_chk b_chk
  obtain ⟨f_alb, fd_alb, m_alb, F_alb⟩ := t.alb.fn X G
  have b_alb : L2.Binds E.K fd_alb ["system", "row"] [] := F_alb.binds fun _ _ _ _ _ _ us hl => match us, hl with | [_, _], _ => rfl
  have c_alb : Cl E 1 "all_behind" R_all_behind := Fun.cl F_alb (ok_all_behind T  F_alb) m_alb b_alb
  obtain ⟨f_lea, fd_lea, m_lea, F_lea⟩ := t.lea.fn X G
  have b_lea : L2.Binds E.K fd_lea ["system", "row"] [] := F_lea.binds fun _ _ _ _ _ _ us hl => match us, hl with | [_, _], _ => rfl
  have c_lea : Cl E 5 "led_all" R_all_behind := Fun.cl F_lea (ok_led_all T c_chk c_alb F_lea) m_lea b_lea
  obtain ⟨f_lot, fd_lot, m_lot, F_lot⟩ := t.lot.fn X G
  have b_lot : L2.Binds E.K fd_lot ["states"] [] := F_lot.binds fun _ _ _ _ _ _ us hl => match us, hl with | [_], _ => rfl
  have c_lot : Cl E 1 "lot_of" R_lot_of := Fun.cl F_lot (ok_lot_of T  F_lot) m_lot b_lot
  obtain ⟨f_ltl, fd_ltl, m_ltl, F_ltl⟩ := t.ltl.fn X G
  have b_ltl : L2.Binds E.K fd_ltl ["system", "lot", "move"] [] := F_ltl.binds fun _ _ _ _ _ _ us hl => match us, hl with | [_, _, _], _ => rfl
  have c_ltl : Cl E 2 "lot_led" R_lot_led := Fun.cl F_ltl (ok_lot_led T c_lot F_ltl) m_ltl b_ltl
  obtain ⟨f_mrg, fd_mrg, m_mrg, F_mrg⟩ := t.mrg.fn X G
  have b_mrg : L2.Binds E.K fd_mrg ["system"] [] := F_mrg.binds fun _ _ _ _ _ _ us hl => match us, hl with | [_], _ => rfl
  have c_mrg : Cl E 3 "merging_row" R_merging_row := Fun.cl F_mrg (ok_merging_row T c_ltl F_mrg) m_mrg b_mrg
  obtain ⟨f_cpl, fd_cpl, m_cpl, F_cpl⟩ := t.cpl.fn X G
  have b_cpl : L2.Binds E.K fd_cpl ["system", "couple", "move"] [] := F_cpl.binds fun _ _ _ _ _ _ us hl => match us, hl with | [_, _, _], _ => rfl
  have c_cpl : Cl E 3 "couple_led" R_couple_led := Fun.cl F_cpl (ok_couple_led T c_ltl F_cpl) m_cpl b_cpl
  obtain ⟨f_alc, fd_alc, m_alc, F_alc⟩ := t.alc.fn X G
  have b_alc : L2.Binds E.K fd_alc ["system"] [] := F_alc.binds fun _ _ _ _ _ _ us hl => match us, hl with | [_], _ => rfl
  have c_alc : Cl E 1 "all_couples" R_all_couples := Fun.cl F_alc (ok_all_couples T  F_alc) m_alc b_alc
  obtain ⟨f_apt, fd_apt, m_apt, F_apt⟩ := t.apt.fn X G
  have b_apt : L2.Binds E.K fd_apt ["system"] [] := F_apt.binds fun _ _ _ _ _ _ us hl => match us, hl with | [_], _ => rfl
  have c_apt : Cl E 4 "apart_there" R_apart_there := Fun.cl F_apt (ok_apart_there T c_alc c_cpl F_apt) m_apt b_apt
  obtain ⟨f_apa, fd_apa, m_apa, F_apa⟩ := t.apa.fn X G
  have b_apa : L2.Binds E.K fd_apa ["system"] [] := F_apa.binds fun _ _ _ _ _ _ us hl => match us, hl with | [_], _ => rfl
  have c_apa : Cl E 5 "apart" R_apart := Fun.cl F_apa (ok_apart T c_apt F_apa) m_apa b_apa
  obtain ⟨f_isc, fd_isc, m_isc, F_isc⟩ := t.isc.fn X G
  have b_isc : L2.Binds E.K fd_isc ["system", "thing"] [] := F_isc.binds fun _ _ _ _ _ _ us hl => match us, hl with | [_, _], _ => rfl
  have c_isc : Cl E 3 "is_couple" R_is_couple := Fun.cl F_isc (ok_is_couple T c_isw F_isc) m_isc b_isc
  obtain ⟨f_isb, fd_isb, m_isb, F_isb⟩ := t.isb.fn X G
  have b_isb : L2.Binds E.K fd_isb ["system", "thing"] [] := F_isb.binds fun _ _ _ _ _ _ us hl => match us, hl with | [_, _], _ => rfl
  have c_isb : Cl E 4 "is_book" R_is_book := Fun.cl F_isb (ok_is_book T c_isc c_ris c_cpl F_isb) m_isb b_isb
  obtain ⟨f_Lhand, fd_Lhand, m_Lhand, F_Lhand⟩ := t.Lhand.fn X G
  have b_Lhand : L2.Binds E.K fd_Lhand ["_law_script"] [] := F_Lhand.binds fun _ _ _ _ _ _ us hl => match us, hl with | [_], _ => rfl
  have c_Lhand : Cl E 1 "_law_hand" R_hand := Fun.cl F_Lhand (ok_hand T  F_Lhand) m_Lhand b_Lhand
  obtain ⟨f_Ldraw, fd_Ldraw, m_Ldraw, F_Ldraw⟩ := t.Ldraw.fn X G
  have b_Ldraw : L2.Binds E.K fd_Ldraw ["_law_hand_here", "_law_many"] [] := F_Ldraw.binds fun _ _ _ _ _ _ us hl => match us, hl with | [_, _], _ => rfl
  have c_Ldraw : Cl E 1 "_law_draw" R_draw := Fun.cl F_Ldraw (ok_draw T  F_Ldraw) m_Ldraw b_Ldraw
  obtain ⟨f_Lany, fd_Lany, m_Lany, F_Lany⟩ := t.Lany.fn X G
  have b_Lany : L2.Binds E.K fd_Lany ["_law_hand_here", "_law_items"] [] := F_Lany.binds fun _ _ _ _ _ _ us hl => match us, hl with | [_, _], _ => rfl
  have c_Lany : Cl E 2 "_law_any" R_any := Fun.cl F_Lany (ok_any T c_Ldraw F_Lany) m_Lany b_Lany
  obtain ⟨f_Lis, fd_Lis, m_Lis, F_Lis⟩ := t.Lis.fn X G
  have b_Lis : L2.Binds E.K fd_Lis ["_law_told", "_law_due"] [] := F_Lis.binds fun _ _ _ _ _ _ us hl => match us, hl with | [_, _], _ => rfl
  have c_Lis0 : Cl E 1 "_law_is" (R_is 0) := Fun.cl F_Lis (ok_is0 T  F_Lis) m_Lis b_Lis
  have c_Lis1 : Cl E 2 "_law_is" (R_is 1) := Fun.cl F_Lis (ok_is1 T c_Lis0 F_Lis) m_Lis b_Lis
  have c_Lis2 : Cl E 3 "_law_is" (R_is 2) := Fun.cl F_Lis (ok_is2 T c_Lis1 F_Lis) m_Lis b_Lis
  obtain ⟨f_Llow, fd_Llow, m_Llow, F_Llow⟩ := t.Llow.fn X G
  have b_Llow : L2.Binds E.K fd_Llow ["_law_top", "_law_bottom"] [] := F_Llow.binds fun _ _ _ _ _ _ us hl => match us, hl with | [_, _], _ => rfl
  have c_Llow : Cl E 1 "_law_low" R_low := Fun.cl F_Llow (ok_low T  F_Llow) m_Llow b_Llow
  obtain ⟨f_Lparts, fd_Lparts, m_Lparts, F_Lparts⟩ := t.Lparts.fn X G
  have b_Lparts : L2.Binds E.K fd_Lparts ["_law_hand_here", "_law_many"] [] := F_Lparts.binds fun _ _ _ _ _ _ us hl => match us, hl with | [_, _], _ => rfl
  have c_Lparts : Cl E 3 "_law_parts" R_parts := Fun.cl F_Lparts (ok_parts T c_Lany c_Llow F_Lparts) m_Lparts b_Lparts
  obtain ⟨f_Lleads, fd_Lleads, m_Lleads, F_Lleads⟩ := t.Lleads.fn X G
  have b_Lleads : L2.Binds E.K fd_Lleads ["_law_hand_here", "_law_many"] [] := F_Lleads.binds fun _ _ _ _ _ _ us hl => match us, hl with | [_, _], _ => rfl
  have c_Lleads : Cl E 2 "_law_leads" R_leads := Fun.cl F_Lleads (ok_leads T c_Ldraw F_Lleads) m_Lleads b_Lleads
  obtain ⟨f_Lhalved, fd_Lhalved, m_Lhalved, F_Lhalved⟩ := t.Lhalved.fn X G
  have b_Lhalved : L2.Binds E.K fd_Lhalved ["_law_leads_here"] [] := F_Lhalved.binds fun _ _ _ _ _ _ us hl => match us, hl with | [_], _ => rfl
  have c_Lhalved : Cl E 1 "_law_halved" R_halved := Fun.cl F_Lhalved (ok_halved T  F_Lhalved) m_Lhalved b_Lhalved
  obtain ⟨f_Lmoves, fd_Lmoves, m_Lmoves, F_Lmoves⟩ := t.Lmoves.fn X G
  have b_Lmoves : L2.Binds E.K fd_Lmoves ["_law_hand_here", "_law_many", "_law_most"] [] := F_Lmoves.binds fun _ _ _ _ _ _ us hl => match us, hl with | [_, _, _], _ => rfl
  have c_Lmoves : Cl E 4 "_law_moves" R_Lmoves := Fun.cl F_Lmoves (ok_Lmoves T c_Ldraw c_Lleads c_Lhalved c_Lparts F_Lmoves) m_Lmoves b_Lmoves
  obtain ⟨f_Lled, fd_Lled, m_Lled, F_Lled⟩ := t.Lled.fn X G
  have b_Lled : L2.Binds E.K fd_Lled ["_law_leads_here", "_law_lot"] [] := F_Lled.binds fun _ _ _ _ _ _ us hl => match us, hl with | [_, _], _ => rfl
  have c_Lled : Cl E 1 "_law_led" R_led := Fun.cl F_Lled (ok_Lled T  F_Lled) m_Lled b_Lled
  obtain ⟨f_Lmerging, fd_Lmerging, m_Lmerging, F_Lmerging⟩ := t.Lmerging.fn X G
  have b_Lmerging : L2.Binds E.K fd_Lmerging ["_law_many", "_law_moves_here"] [] := F_Lmerging.binds fun _ _ _ _ _ _ us hl => match us, hl with | [_, _], _ => rfl
  have c_Lmerging : Cl E 2 "_law_merging" R_Lmerging := Fun.cl F_Lmerging (ok_Lmerging T c_Lled F_Lmerging) m_Lmerging b_Lmerging
  obtain ⟨f_Lcouples, fd_Lcouples, m_Lcouples, F_Lcouples⟩ := t.Lcouples.fn X G
  have b_Lcouples : L2.Binds E.K fd_Lcouples ["_law_many"] [] := F_Lcouples.binds fun _ _ _ _ _ _ us hl => match us, hl with | [_], _ => rfl
  have c_Lcouples : Cl E 1 "_law_couples" R_couples := Fun.cl F_Lcouples (ok_Lcouples T  F_Lcouples) m_Lcouples b_Lcouples
  obtain ⟨f_Lapart, fd_Lapart, m_Lapart, F_Lapart⟩ := t.Lapart.fn X G
  have b_Lapart : L2.Binds E.K fd_Lapart ["_law_many", "_law_moves_here"] [] := F_Lapart.binds fun _ _ _ _ _ _ us hl => match us, hl with | [_, _], _ => rfl
  have c_Lapart : Cl E 2 "_law_apart" R_Lapart := Fun.cl F_Lapart (ok_Lapart T c_Lcouples c_Lled F_Lapart) m_Lapart b_Lapart
  obtain ⟨f_Lis_book, fd_Lis_book, m_Lis_book, F_Lis_book⟩ := t.Lis_book.fn X G
  have b_Lis_book : L2.Binds E.K fd_Lis_book ["_law_many", "_law_moves_here", "_law_thing"] [] := F_Lis_book.binds fun _ _ _ _ _ _ us hl => match us, hl with | [_, _, _], _ => rfl
  have c_Lis_book : Cl E 2 "_law_is_book" R_Lis_book := Fun.cl F_Lis_book (ok_Lis_book T c_Lled F_Lis_book) m_Lis_book b_Lis_book
  obtain ⟨f_Lnested, fd_Lnested, m_Lnested, F_Lnested⟩ := t.Lnested.fn X G
  have b_Lnested : L2.Binds E.K fd_Lnested ["_law_hand_here"] [] := F_Lnested.binds fun _ _ _ _ _ _ us hl => match us, hl with | [_], _ => rfl
  have c_Lnested : Cl E 3 "_law_nested" R_nested := Fun.cl F_Lnested (ok_nested T c_Ldraw c_Lany F_Lnested) m_Lnested b_Lnested
  obtain ⟨f_Lshortest, fd_Lshortest, m_Lshortest, F_Lshortest⟩ := t.Lshortest.fn X G
  have b_Lshortest : L2.Binds E.K fd_Lshortest ["_law_many", "_law_moves_here", "_law_most"] [] := F_Lshortest.binds fun _ _ _ _ _ _ us hl => match us, hl with | [_, _, _], _ => rfl
  have c_Lshortest : Cl E 1 "_law_shortest" R_shortest := Fun.cl F_Lshortest (ok_shortest T  F_Lshortest) m_Lshortest b_Lshortest
  obtain ⟨f_Lgrown, fd_Lgrown, m_Lgrown, F_Lgrown⟩ := t.Lgrown.fn X G
  have b_Lgrown : L2.Binds E.K fd_Lgrown ["_law_moves_here", "_law_pair"] [] := F_Lgrown.binds fun _ _ _ _ _ _ us hl => match us, hl with | [_, _], _ => rfl
  have c_Lgrown : Cl E 2 "_law_grown" R_grown := Fun.cl F_Lgrown (ok_grown T c_Lled F_Lgrown) m_Lgrown b_Lgrown
  obtain ⟨f_Lbooks, fd_Lbooks, m_Lbooks, F_Lbooks⟩ := t.Lbooks.fn X G
  have b_Lbooks : L2.Binds E.K fd_Lbooks ["_law_hand_here", "_law_many", "_law_moves_here", "_law_due"] [] := F_Lbooks.binds fun _ _ _ _ _ _ us hl => match us, hl with | [_, _, _, _], _ => rfl
  have c_Lbooks : Cl E 4 "_law_books" R_books := Fun.cl F_Lbooks (ok_books T c_Ldraw c_Lany c_Lcouples c_Lgrown c_Lnested F_Lbooks) m_Lbooks b_Lbooks
  obtain ⟨f_Lturned, fd_Lturned, m_Lturned, F_Lturned⟩ := t.Lturned.fn X G
  have b_Lturned : L2.Binds E.K fd_Lturned ["_law_hand_here", "_law_many"] [] := F_Lturned.binds fun _ _ _ _ _ _ us hl => match us, hl with | [_, _], _ => rfl
  have c_Lturned : Cl E 3 "_law_turned" R_turned := Fun.cl F_Lturned (ok_turned T c_Ldraw c_Lany c_Llow F_Lturned) m_Lturned b_Lturned
  have oI := ok_init T c_isw c_ism c_sum FI
  obtain ⟨f_1, fd_1, m_1, F_1⟩ := t.Lone.fn X G
  have b_1 : L2.Binds E.K fd_1 ["_law_hand_here", "_law_many", "_law_moves_here"] [] := F_1.binds fun _ _ _ _ _ _ us hl => match us, hl with | [_, _, _], _ => rfl
  have c_1 : Cl E 7 "_law_one_right" R_one_right := Fun.cl F_1 (ok_one_right T ⟨c.mks, iA, iF, c.kc⟩ oI bI c_Lmerging c_Lapart c_mrg c_Lis1 c_Lis2 c_apa c_isb c_Lshortest c_lea c_Lbooks c_Lis_book F_1) m_1 b_1
  exact ok_law T (fun n ms S h4 => math S.aut h4) c_Lhand c_Ldraw c_1 c_Lmoves c_Lturned FL
end A8
open PySem PySem.W PyProof.Rows
set_option Elab.async false
set_option linter.all false
set_option maxRecDepth 100000 in
set_option maxHeartbeats 0 in
theorem PySem.Challenge.cw_asifforever_k08_whole_merging_rows_and_b_holds : PySem.Challenge.rw_asifforever_k08_whole_merging_rows_and_b.Holds := by
  w_on; o_law; k_head; (case hw => w_witness2)
  k_fill
  refine L2.walk_of (l := PySem.Challenge.rw_asifforever_k08_whole_merging_rows_and_b) (n := 63) (k := 9) (x := "_law_script") (CX := fun _ => L2.CX0) (sp := fun w => A8.spTop _) rfl (by decide) rfl ⟨rfl, by decide, by decide⟩ (fun w h Y => PySem.W.kIn_of Y) ?F (fun _ _ a ns hl _ hS => ⟨a, ns, rfl, hS, hl, fun _ => rfl⟩) (fun _ _ _ _ _ h => h)
  case F =>
    intro w mg fa h KX G hmg
    refine A8.all_mk KX G hmg ?T
    constructor
    case isi => refine' A8.TopAt.of ?a ?l ?c ?k; (case a => k_is); (case l => k_is); (case c => k_is); (case k => k_is)
    case isw => refine' A8.TopAt.of ?a ?l ?c ?k; (case a => k_is); (case l => k_is); (case c => k_is); (case k => k_is)
    case arn => refine' A8.TopAt.of ?a ?l ?c ?k; (case a => k_is); (case l => k_is); (case c => k_is); (case k => k_is)
    case ris => refine' A8.TopAt.of ?a ?l ?c ?k; (case a => k_is); (case l => k_is); (case c => k_is); (case k => k_is)
    case div => refine' A8.TopAt.of ?a ?l ?c ?k; (case a => k_is); (case l => k_is); (case c => k_is); (case k => k_is)
    case fra => refine' A8.TopAt.of ?a ?l ?c ?k; (case a => k_is); (case l => k_is); (case c => k_is); (case k => k_is)
    case isf => refine' A8.TopAt.of ?a ?l ?c ?k; (case a => k_is); (case l => k_is); (case c => k_is); (case k => k_is)
    case plu => refine' A8.TopAt.of ?a ?l ?c ?k; (case a => k_is); (case l => k_is); (case c => k_is); (case k => k_is)
    case sum => refine' A8.TopAt.of ?a ?l ?c ?k; (case a => k_is); (case l => k_is); (case c => k_is); (case k => k_is)
    case iss => refine' A8.TopAt.of ?a ?l ?c ?k; (case a => k_is); (case l => k_is); (case c => k_is); (case k => k_is)
    case ism => refine' A8.TopAt.of ?a ?l ?c ?k; (case a => k_is); (case l => k_is); (case c => k_is); (case k => k_is)
    case chk => refine' A8.TopAt.of ?a ?l ?c ?k; (case a => k_is); (case l => k_is); (case c => k_is); (case k => k_is)
    case alb => refine' A8.TopAt.of ?a ?l ?c ?k; (case a => k_is); (case l => k_is); (case c => k_is); (case k => k_is)
    case lea => refine' A8.TopAt.of ?a ?l ?c ?k; (case a => k_is); (case l => k_is); (case c => k_is); (case k => k_is)
    case lot => refine' A8.TopAt.of ?a ?l ?c ?k; (case a => k_is); (case l => k_is); (case c => k_is); (case k => k_is)
    case ltl => refine' A8.TopAt.of ?a ?l ?c ?k; (case a => k_is); (case l => k_is); (case c => k_is); (case k => k_is)
    case mrg => refine' A8.TopAt.of ?a ?l ?c ?k; (case a => k_is); (case l => k_is); (case c => k_is); (case k => k_is)
    case cpl => refine' A8.TopAt.of ?a ?l ?c ?k; (case a => k_is); (case l => k_is); (case c => k_is); (case k => k_is)
    case alc => refine' A8.TopAt.of ?a ?l ?c ?k; (case a => k_is); (case l => k_is); (case c => k_is); (case k => k_is)
    case apt => refine' A8.TopAt.of ?a ?l ?c ?k; (case a => k_is); (case l => k_is); (case c => k_is); (case k => k_is)
    case apa => refine' A8.TopAt.of ?a ?l ?c ?k; (case a => k_is); (case l => k_is); (case c => k_is); (case k => k_is)
    case isc => refine' A8.TopAt.of ?a ?l ?c ?k; (case a => k_is); (case l => k_is); (case c => k_is); (case k => k_is)
    case isb => refine' A8.TopAt.of ?a ?l ?c ?k; (case a => k_is); (case l => k_is); (case c => k_is); (case k => k_is)
    case Lhand => refine' A8.TopAt.of ?a ?l ?c ?k; (case a => k_is); (case l => k_is); (case c => k_is); (case k => k_is)
    case Ldraw => refine' A8.TopAt.of ?a ?l ?c ?k; (case a => k_is); (case l => k_is); (case c => k_is); (case k => k_is)
    case Lany => refine' A8.TopAt.of ?a ?l ?c ?k; (case a => k_is); (case l => k_is); (case c => k_is); (case k => k_is)
    case Lis => refine' A8.TopAt.of ?a ?l ?c ?k; (case a => k_is); (case l => k_is); (case c => k_is); (case k => k_is)
    case Llow => refine' A8.TopAt.of ?a ?l ?c ?k; (case a => k_is); (case l => k_is); (case c => k_is); (case k => k_is)
    case Lparts => refine' A8.TopAt.of ?a ?l ?c ?k; (case a => k_is); (case l => k_is); (case c => k_is); (case k => k_is)
    case Lleads => refine' A8.TopAt.of ?a ?l ?c ?k; (case a => k_is); (case l => k_is); (case c => k_is); (case k => k_is)
    case Lhalved => refine' A8.TopAt.of ?a ?l ?c ?k; (case a => k_is); (case l => k_is); (case c => k_is); (case k => k_is)
    case Lmoves => refine' A8.TopAt.of ?a ?l ?c ?k; (case a => k_is); (case l => k_is); (case c => k_is); (case k => k_is)
    case Lled => refine' A8.TopAt.of ?a ?l ?c ?k; (case a => k_is); (case l => k_is); (case c => k_is); (case k => k_is)
    case Lmerging => refine' A8.TopAt.of ?a ?l ?c ?k; (case a => k_is); (case l => k_is); (case c => k_is); (case k => k_is)
    case Lcouples => refine' A8.TopAt.of ?a ?l ?c ?k; (case a => k_is); (case l => k_is); (case c => k_is); (case k => k_is)
    case Lapart => refine' A8.TopAt.of ?a ?l ?c ?k; (case a => k_is); (case l => k_is); (case c => k_is); (case k => k_is)
    case Lis_book => refine' A8.TopAt.of ?a ?l ?c ?k; (case a => k_is); (case l => k_is); (case c => k_is); (case k => k_is)
    case Lnested => refine' A8.TopAt.of ?a ?l ?c ?k; (case a => k_is); (case l => k_is); (case c => k_is); (case k => k_is)
    case Lshortest => refine' A8.TopAt.of ?a ?l ?c ?k; (case a => k_is); (case l => k_is); (case c => k_is); (case k => k_is)
    case Lgrown => refine' A8.TopAt.of ?a ?l ?c ?k; (case a => k_is); (case l => k_is); (case c => k_is); (case k => k_is)
    case Lbooks => refine' A8.TopAt.of ?a ?l ?c ?k; (case a => k_is); (case l => k_is); (case c => k_is); (case k => k_is)
    case Lturned => refine' A8.TopAt.of ?a ?l ?c ?k; (case a => k_is); (case l => k_is); (case c => k_is); (case k => k_is)
    case Lone => refine' A8.TopAt.of ?a ?l ?c ?k; (case a => k_is); (case l => k_is); (case c => k_is); (case k => k_is)
    case Llaw => refine' A8.TopAt.of ?a ?l ?c ?k; (case a => k_is); (case l => k_is); (case c => k_is); (case k => k_is)
    case C =>
      refine' A8.SysAt.of ?a ?pg ?hd ?po ?sa ?mk ?kc ?nM ?nV ?i ?j ?l ?c ?k
      (case a => k_is); (case pg => k_is); (case hd => k_is); (case po => k_is); (case sa => k_is); (case mk => k_is); (case kc => k_is); (case nM => k_is); (case nV => k_is)
      (case i => k_is); (case j => k_is); (case l => k_is); (case c => k_is); (case k => k_is)
    case zero => refine' A8.PairAt.of ?a ?l ?e; (case a => k_is); (case l => k_is); (case e => rfl)
    case one => refine' A8.PairAt.of ?a ?l ?e; (case a => k_is); (case l => k_is); (case e => rfl)
    case mS => refine' A8.IntAt.of ?a; (case a => k_is)
    case mM => refine' A8.IntAt.of ?a; (case a => k_is)
    case mR => refine' A8.IntAt.of ?a; (case a => k_is)
    case z_len => unfold A8.NoAt; k_is
    case z_isinstance => unfold A8.NoAt; k_is
    case z_int => unfold A8.NoAt; k_is
    case z_bool => unfold A8.NoAt; k_is
    case z_tuple => unfold A8.NoAt; k_is
    case z_list => unfold A8.NoAt; k_is
    case z_all => unfold A8.NoAt; k_is
    case z_any => unfold A8.NoAt; k_is
    case z_sum => unfold A8.NoAt; k_is
    case z_range => unfold A8.NoAt; k_is
    case z_enumerate => unfold A8.NoAt; k_is
    case z_zip => unfold A8.NoAt; k_is
    case z_abs => unfold A8.NoAt; k_is
    case z_min => unfold A8.NoAt; k_is
    case z_max => unfold A8.NoAt; k_is
    case z_sorted => unfold A8.NoAt; k_is
    case z_set => unfold A8.NoAt; k_is
